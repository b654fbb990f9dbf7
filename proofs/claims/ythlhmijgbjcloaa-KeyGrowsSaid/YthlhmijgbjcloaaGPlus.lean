/- What the row of this claim reaches. No condition. -/
import Derived.Laws.BytesArg
import Derived.WalkKit
import Derived.Test.YthlhmijgbjcloaaGBits
set_option linter.unusedVariables false
set_option linter.unusedSimpArgs false
namespace Go.Proofs.Ythlhmijgbjcloaa
open Go.RowKit
def mixF (M S i j : Nat) : Int:=if j < i then bf S j else bf M j
theorem mix_start (M N k : Nat) (j : Nat) : mixF M (M+N * 2 ^ k) k j = bf M j:=by
 unfold mixF
 split
 ·next h => unfold bf;rw [bt_sum_low M N j k h]
 ·rfl
theorem mix_next (M S i j : Nat) : mixF M S (i+1) j = if j = i then bf S i else mixF M S i j:=by
 unfold mixF
 by_cases e : j = i
 ·subst e;rw [if_pos (by omega),if_pos rfl]
 ·rw [if_neg e]
  by_cases h : j < i
  ·rw [if_pos h,if_pos (by omega)]
  ·rw [if_neg h,if_neg (by omega)]
theorem mix_end (M S j : Nat) (h : j < 260) : mixF M S 260 j = bf S j:=by unfold mixF;rw [if_pos h]
set_option maxHeartbeats 1000000 in
set_option maxRecDepth 100000 in
theorem plus_n (M N k : Nat) (hk : k ≤ 260) (w : World) :
  Calls Try.prog 49 #[.agg (fv (bf M)),.agg (fv (bf N)),.int .i64 (k : Int)] w fun e w' => e = .returned (.agg (fv (bf (M+N * 2 ^ k))))∧Below w.heap.size w w':=by
 have hz:=zero_row
 obtain ⟨S,hS⟩ : ∃ S,M+N * 2 ^ k = S:=⟨_,rfl⟩
 obtain ⟨T,hT⟩ : ∃ T,N * 2 ^ k = T:=⟨_,rfl⟩
 have HS:=Lib.hid hS
 have HT:=Lib.hid hT
 rw [hS]
 clear hS hT
 go_enter Try.func49,Try.ntmps49
 go_wp2
 go_loopw [7,8] (fun v7 v8 wr => ∃ i : Nat,i ≤ 260∧k ≤ i∧v8 = .int .i64 (i : Int)∧v7 = .int .i64 (cr M T i : Int)∧Blk wr w.heap.size 61 (fv (mixF M S i))∧Blk wr (w.heap.size+1) 61 (fv (bf N)) ∧
   Blk wr (w.heap.size+1+1) 61 (fv fun _ => 0)∧Below w.heap.size w wr) (fun _ v8 _ => 260 - (intOf v8).toNat)
 case atStart =>
  refine ⟨k,hk,by omega,by go_num,by rw [← HT.out,cr_shift];rfl,?_,?_,?_,by (repeat (first|exact Below.refl _ _|refine Below.drew ?_|refine below_drewN' ?_|refine Below.alloc ?_ (by simp;try omega) _|refine Below.setCell ?_ (by simp;try omega) _))⟩
  ·refine Blk.congr_ (f:=bf M) ?_ (fun i _ => by rw [← HS.out];exact mix_start M N k i)
   exact Blk.alloc (Blk.alloc (Blk.newAt (by simp)) _) _
  ·exact Blk.alloc (Blk.newAt (by simp)) _
  ·exact Blk.newAt (by simp)
 case round =>
  obtain ⟨i,hi,hki,rfl,rfl,hr,hr1,hr2,hB⟩:=hrel
  by_cases hlt : i < 260
  ·obtain ⟨j,rfl⟩ : ∃ j,i = k+j:=⟨i - k,by omega⟩
   obtain ⟨x,hx⟩ : ∃ x,bt M (k+j) = x:=⟨_,rfl⟩
   obtain ⟨y,hy⟩ : ∃ y,bt N j = y:=⟨_,rfl⟩
   obtain ⟨c,hc⟩ : ∃ c,cr M T (k+j) = c:=⟨_,rfl⟩
   have hx1:=bt_le M (k+j)
   have hy1:=bt_le N j
   have hc1:=cr_le M T (k+j)
   rw [hx] at hx1
   rw [hy] at hy1
   rw [hc] at hc1
   have f1:=(hr.cell (k+j)).trans (fv_get _ (by omega))
   rw [mixF,if_neg (by omega),bf,hx] at f1
   have f2:=(hr1.cell j).trans (fv_get _ (by omega))
   rw [bf,hy] at f2
   have g1:=hr.frozen (k+j)
   have hsum:=sum_bit M T (k+j)
   rw [← HT.out,bt_shift N (k+j) k (by omega),HT.out,Nat.add_sub_cancel_left,hx,hy,hc,← HT.out,HS.out] at hsum
   have HX:=Lib.hid hsum
   have HC:=Lib.hid hc
   clear hx hy hsum
   rw [hc]
   clear hc
   have l0:=hr.lt
   have l1:=hr1.lt
   go_wp2
   go_quiet (fail)
   obtain ⟨W,hW⟩ : ∃ W,wr.drewN nq = W:=⟨_,rfl⟩
   replace f1 : W.cell? ⟨w.heap.size,k+j,none⟩ = some (.int .i64 x):=by rw [← hW];exact f1
   replace g1 : W.frozen? ⟨w.heap.size,k+j,none⟩ = false:=by rw [← hW];exact g1
   replace l0 : w.heap.size < W.heap.size:=by rw [← hW];exact l0
   replace hr : Blk W w.heap.size 61 (fv (mixF M S (k+j))):=by rw [← hW];exact hr.drewN nq
   replace hr1 : Blk W (w.heap.size+1) 61 (fv (bf N)):=by rw [← hW];exact hr1.drewN nq
   replace hr2 : Blk W (w.heap.size+1+1) 61 (fv fun _ => 0):=by rw [← hW];exact hr2.drewN nq
   replace hB : Below w.heap.size w W:=by rw [← hW];exact below_drewN' hB
   rw [hW]
   clear hW f2 l1
   go_wp2
   go_roundw
   case rel =>
    have r1 : ((x : Int)+y+c) % 2 = (((x+y+c) % 2 : Nat) : Int):=by omega
    have r2 : ((x : Int)+y+c) / 2 = (((x+y+c) / 2 : Nat) : Int):=by omega
    have hs:=hB.size
    refine ⟨k+j+1,by omega,by omega,by go_num,?_,?_,hr1.far (by simp) _,hr2.far (by simp;omega) _,hB.setCell (by simp) _⟩
    ·rw [r2,← HT.out,HX.out.2]
    ·have h2:=hr.set_ (k+j) (.int .i64 (((x+y+c) % 2 : Nat) : Int))
     rw [fv_set _ (by omega)] at h2
     rw [r1]
     refine h2.congr_ (fun i _ => ?_)
     rw [mix_next,bf,HX.out.1]
   case measure => simp [intOf];omega
  ·obtain rfl : i = 260:=by omega
   go_wp2_with (first
    | (refine wpList_load_row rfl 61 _ rfl w.heap.size rfl 61 _ (0,0) _ hr Try.underlying61 rfl (size_row _) ?_)
    | (refine wpList_store_row rfl 61 _ _ rfl (w.heap.size+1+1) (fv (mixF M S 260)) rfl rfl 61 _ hr2 (size_row _) (by rw [fv_size,fv_size]) (fv_one _) ?_))
   rw [fv_congr (mix_end M S)]
   refine bodyPost_ret (v:=.agg (fv (bf S))) (results_cell_row (p:=6) (ty:=61) rfl _ _ (w.heap.size+1+1) 61 (fv (bf S)) (0,0) _ rfl (setRow_heap _ _ _ _ _ _ hr2) Try.underlying61 rfl (size_row _)) rfl ⟨rfl,below_setRow hB (by omega) _⟩
end Go.Proofs.Ythlhmijgbjcloaa
