/- What the row of this claim reaches. No condition. -/
import Derived.Deep.RegionHeld3
import Derived.Laws.CopyOwn
import Derived.Laws.BytesArg
import Derived.WalkKit
import Derived.Test.YthlhmijgbjcloaaGWide
import Derived.Test.YthlhmijgbjcloaaGKeep
import Derived.Test.YthlhmijgbjcloaaGBitsMath
set_option linter.unusedVariables false
set_option linter.unusedSimpArgs false
namespace Go.Proofs.Ythlhmijgbjcloaa
open Go.RowKit
theorem info_row : (Try.prog.info? 61).map (fun i => (i.zero,i.size)) = some (some (.agg (fv fun _ => 0)),260):=by kernel_rfl
theorem size_row (f : Nat→Int) : (Try.prog.info? 61).map (·.size) = some (fv f).size:=by
 rw [fv_size];exact (zero_of_info info_row).2
theorem zero_row : ∀ w,(zeroValue 61).run Try.prog w = .ok (.agg (fv fun _ => 0)) w:=(zero_of_info info_row).1
theorem Blk.newAt {w : World} {g : Nat} {t : TypeId} {cs : Array Value} (h : w.heap.size = g) : Blk (w.alloc (.cells cs t)) g t cs:=by
 subst h;exact Blk.new _ _ _
theorem Blk.congr_ {w : World} {g : Nat} {t : TypeId} {f h : Nat→Int} (hb : Blk w g t (fv f)) (he : ∀ i,i < 260→h i = f i) : Blk w g t (fv h):=by
 rw [fv_congr he];exact hb
def halfF (hi lo k i : Nat) : Int:=if i < k then bf lo i else if 64 ≤ i∧i < 64+k then bf hi (i - 64) else 0
theorem half_next (hi lo k i : Nat) (h : k < 64) : halfF hi lo (k+1) i = if i = 64+k then bf hi k else if i = k then bf lo k else halfF hi lo k i:=by
 unfold halfF
 by_cases e : i = 64+k
 ·subst e
  rw [if_neg (by omega),if_pos (by omega),if_pos rfl,Nat.add_sub_cancel_left]
 ·rw [if_neg e]
  by_cases e2 : i = k
  ·subst e2;rw [if_pos (by omega),if_pos rfl]
  ·rw [if_neg e2]
   by_cases h3 : i < k
   ·rw [if_pos h3,if_pos (by omega)]
   ·rw [if_neg h3,if_neg (by omega)]
    by_cases h4 : 64 ≤ i∧i < 64+k
    ·rw [if_pos h4,if_pos (by omega)]
    ·rw [if_neg h4,if_neg (by omega)]
theorem half_all (n : Nat) (hn : n < 2 ^ 128) (i : Nat) (hi : i < 260) : halfF (n / 2 ^ 64) (n % 2 ^ 64) 64 i = bf n i:=by
 unfold halfF
 by_cases h : i < 64
 ·rw [if_pos h];unfold bf;rw [bt_mod _ h]
 ·rw [if_neg h]
  by_cases h2 : i < 64+64
  ·rw [if_pos (by omega)];unfold bf bt
   rw [Nat.div_div_eq_div_mul,← Nat.pow_add,show 64+(i - 64) = i by omega]
  ·rw [if_neg (by omega)];unfold bf;rw [bt_high hn (by omega)];rfl
set_option maxHeartbeats 1000000 in
set_option maxRecDepth 100000 in
theorem bits_raw (hi lo : Nat) (hh : hi ≤ 18446744073709551615) (hl : lo ≤ 18446744073709551615) (w : World) :
  Calls Try.prog 48 #[.agg #[.int .u64 (hi : Int),.int .u64 (lo : Int)]] w fun e w' => e = .returned (.agg (fv (halfF hi lo 64)))∧Below w.heap.size w w':=by
 have hz:=zero_row
 have HH:=Lib.hid hh
 have HL:=Lib.hid hl
 clear hh hl
 go_enter Try.func48,Try.ntmps48
 go_wp2
 go_loopw [4] (fun v4 wr => ∃ k : Nat,k ≤ 64∧v4 = .int .i64 (k : Int)∧Blk wr (w.heap.size+1+1) 61 (fv (halfF hi lo k))∧Blk wr (w.heap.size+1) 61 (fv fun _ => 0) ∧
   wr.cell? ⟨w.heap.size,0,none⟩ = some (.int .u64 (hi : Int))∧wr.cell? ⟨w.heap.size,1,none⟩ = some (.int .u64 (lo : Int))∧Below w.heap.size w wr) (fun v4 _ => 64 - (intOf v4).toNat)
 case atStart =>
  refine ⟨0,by omega,by go_num,?_,?_,?_,?_,by (repeat (first|exact Below.refl _ _|refine Below.drew ?_|refine below_drewN' ?_|refine Below.alloc ?_ (by simp;try omega) _|refine Below.setCell ?_ (by simp;try omega) _))⟩
  ·refine Blk.congr_ (f:=fun _ => 0) ?_ (fun i hi => by unfold halfF;rw [if_neg (by omega),if_neg (by omega)])
   exact Blk.newAt (by simp)
  ·refine Blk.alloc ?_ _
   exact Blk.newAt (by simp)
  ·exact keep_alloc _ (keep_alloc _ (World.cell?_alloc_new _ _ _ _))
  ·exact keep_alloc _ (keep_alloc _ (World.cell?_alloc_new _ _ _ _))
 case round =>
  obtain ⟨k,hk,rfl,hr,hr1,c0,c1,hB⟩:=hrel
  by_cases hlt : k < 64
  ·have e1 : bits BinOp.and IntKind.u64 ((lo : Int) / 2 ^ k) 1 = bf lo k:=by
    have e : ((lo : Int) / 2 ^ k) = ((lo / 2 ^ k : Nat) : Int):=by simp
    have:=Nat.div_le_self lo (2 ^ k)
    have:=HL.out
    generalize hY : lo / 2 ^ k = Y at *
    rw [e,and_one_u64 _ (by omega) (by omega)]
    unfold bf bt;omega
   have e2 : bits BinOp.and IntKind.u64 ((hi : Int) / 2 ^ k) 1 = bf hi k:=by
    have e : ((hi : Int) / 2 ^ k) = ((hi / 2 ^ k : Nat) : Int):=by simp
    have:=Nat.div_le_self hi (2 ^ k)
    have:=HH.out
    generalize hY : hi / 2 ^ k = Y at *
    rw [e,and_one_u64 _ (by omega) (by omega)]
    unfold bf bt;omega
   obtain ⟨x,hx⟩ : ∃ x,bf lo k = x:=⟨_,rfl⟩
   obtain ⟨y,hy⟩ : ∃ x,bf hi k = x:=⟨_,rfl⟩
   have hxb : 0 ≤ x∧x ≤ 1:=by have:=bt_le lo k;unfold bf at hx;omega
   have hyb : 0 ≤ y∧y ≤ 1:=by have:=bt_le hi k;unfold bf at hy;omega
   obtain ⟨hx0,hx1⟩:=hxb
   obtain ⟨hy0,hy1⟩:=hyb
   rw [hx] at e1
   rw [hy] at e2
   have HX:=Lib.hid hx
   have HY:=Lib.hid hy
   clear hx hy
   have f1:=(hr.cell k).trans (fv_get _ (by omega))
   have f2:=(hr.set_ k (.int .i64 x)).cell (64+k)
   rw [fv_set _ (by omega),fv_get _ (by omega)] at f2
   have g1:=hr.frozen k
   have g2:=(hr.set_ k (.int .i64 x)).frozen (64+k)
   have l0:=lt_cell c0
   have l2:=hr.lt
   go_wp2
   go_roundw
   case rel =>
    have hs:=hB.size
    refine ⟨k+1,by omega,by go_num,?_,(hr1.far (by simp) _).far (by simp) _,?_,?_,(hB.setCell (by simp;omega) _).setCell (by simp;omega) _⟩
    ·have h2:=(hr.set_ k (.int .i64 x)).set_ (64+k) (.int .i64 y)
     rw [fv_set _ (by omega),fv_set _ (by omega)] at h2
     refine h2.congr_ (fun i _ => ?_)
     rw [← HX.out,← HY.out]
     exact half_next hi lo k i (by omega)
    ·exact keep_set _ (keep_set _ c0 (by simp;omega)) (by simp;omega)
    ·exact keep_set _ (keep_set _ c1 (by simp;omega)) (by simp;omega)
   case measure => simp [intOf];omega
  ·obtain rfl : k = 64:=by omega
   go_wp2_with (first
    | (refine wpList_load_row rfl 61 _ rfl (w.heap.size+1+1) rfl 61 _ (0,0) _ hr Try.underlying61 rfl (size_row _) ?_)
    | (refine wpList_store_row rfl 61 _ _ rfl (w.heap.size+1) (fv (halfF hi lo 64)) rfl rfl 61 _ hr1 (size_row _) (by rw [fv_size,fv_size]) (fv_one _) ?_))
   refine bodyPost_ret (v:=.agg (fv (halfF hi lo 64))) (results_cell_row (p:=2) (ty:=61) rfl _ _ (w.heap.size+1) 61 (fv (halfF hi lo 64)) (0,0) _ rfl (setRow_heap _ _ _ _ _ _ hr1) Try.underlying61 rfl (size_row _)) rfl ⟨rfl,below_setRow hB (by omega) _⟩
theorem bits_n (n : Nat) (hn : n < 2 ^ 128) (w : World) :
  Calls Try.prog 48 #[wd n] w fun e w' => e = .returned (.agg (fv (bf n)))∧Below w.heap.size w w':=by
 have hb:=bits_raw (n / 2 ^ 64) (n % 2 ^ 64) (by omega) (by omega) w
 rw [fv_congr (half_all n hn)] at hb
 exact hb
end Go.Proofs.Ythlhmijgbjcloaa
