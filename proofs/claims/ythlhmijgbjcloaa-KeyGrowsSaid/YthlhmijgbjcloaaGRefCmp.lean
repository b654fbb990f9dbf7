/- What the row of this claim reaches. No condition. -/
import Derived.Laws.BytesArg
import Derived.WalkKit
import Derived.Test.YthlhmijgbjcloaaGRowCells
set_option linter.unusedVariables false
set_option linter.unusedSimpArgs false
namespace Go.Proofs.Ythlhmijgbjcloaa
open Go.RowKit
theorem cmp_step (a b k : Nat) (h : a / 2 ^ (k+1) = b / 2 ^ (k+1)) : (bt a k < bt b k→a < b)∧(bt b k < bt a k→b < a)∧(bt a k = bt b k→a / 2 ^ k = b / 2 ^ k):=by
 have e : ∀ n,n / 2 ^ k = 2 * (n / 2 ^ (k+1))+bt n k:=fun n => by
  unfold bt
  rw [Nat.pow_succ,← Nat.div_div_eq_div_mul]
  omega
 have ea:=e a
 have eb:=e b
 refine ⟨fun h1 => ?_,fun h1 => ?_,fun h1 => by omega⟩
 ·rcases Nat.lt_or_ge a b with h2|h2
  ·exact h2
  ·have:=Nat.div_le_div_right (c:=2 ^ k) h2;omega
 ·rcases Nat.lt_or_ge b a with h2|h2
  ·exact h2
  ·have:=Nat.div_le_div_right (c:=2 ^ k) h2;omega
set_option maxHeartbeats 8000000 in
set_option maxRecDepth 100000 in
theorem refcmp_n (a b : Nat) (ha : a < 2 ^ 128) (hb : b < 2 ^ 128) (w : World) :
  Calls Try.prog 31 #[wd a,wd b] w fun e w' => e = .returned (.int .i64 (cmpN a b))∧Below w.heap.size w w':=by
 have hz:=zero_row
 obtain ⟨L1,hL1⟩ : ∃ L,fl (bf a) = L:=⟨_,rfl⟩
 obtain ⟨L2,hL2⟩ : ∃ L,fl (bf b) = L:=⟨_,rfl⟩
 have hbits1 : ∀ W,Hid (Calls Try.prog 48 #[wd a] W fun e w' => e = .returned (.agg L1.toArray)∧Below W.heap.size W w'):=fun W => Lib.hid (by
  have:=bits_n a ha W
  rwa [fv_fl,hL1] at this)
 have hbits2 : ∀ W,Hid (Calls Try.prog 48 #[wd b] W fun e w' => e = .returned (.agg L2.toArray)∧Below W.heap.size W w'):=fun W => Lib.hid (by
  have:=bits_n b hb W
  rwa [fv_fl,hL2] at this)
 have hn1 : L1.length = 260:=by rw [← hL1,fl_length]
 have hn2 : L2.length = 260:=by rw [← hL2,fl_length]
 have ho1 : ∀ v ∈ L1,v.oneCell' = true:=by rw [← hL1];exact fl_one _
 have ho2 : ∀ v ∈ L2,v.oneCell' = true:=by rw [← hL2];exact fl_one _
 have hi1 : (Try.prog.info? 61).map (·.size) = some L1.length:=by rw [hn1];exact (zero_of_info info_row).2
 have hi2 : (Try.prog.info? 61).map (·.size) = some L2.length:=by rw [hn2];exact (zero_of_info info_row).2
 have HL1:=Lib.hid hL1
 have HL2:=Lib.hid hL2
 have HA:=Lib.hid ha
 have HB:=Lib.hid hb
 have tnew:=fun W => there_new W (fun _ => 0)
 have tnew1:=fun W o => there_new1 W o (fun _ => 0)
 have talloc:=there_alloc
 have tset:=there_set
 clear hL1 hL2 ha hb
 go_enter Try.func31,Try.ntmps31
 go_wp2
 obtain ⟨W0,hW0⟩ : ∃ W,(w.alloc (.cells #[.int .u64 (hi64 (a : Int)),.int .u64 (lo64 (a : Int))] 25)).alloc (.cells #[.int .u64 (hi64 (b : Int)),.int .u64 (lo64 (b : Int))] 25) = W:=⟨_,rfl⟩
 have hB : Below w.heap.size w W0:=by rw [← hW0];(repeat (first|exact Below.refl _ _|refine Below.drew ?_|refine below_drewN' ?_|refine Below.alloc ?_ (by simp;try omega) _|refine Below.setCell ?_ (by simp;try omega) _))
 have c0 : W0.cell? ⟨w.heap.size,0,none⟩ = some (.int .u64 (hi64 (a : Int))):=by rw [← hW0];exact keep_alloc _ (World.cell?_alloc_new _ _ _ _)
 have c1 : W0.cell? ⟨w.heap.size,1,none⟩ = some (.int .u64 (lo64 (a : Int))):=by rw [← hW0];exact keep_alloc _ (World.cell?_alloc_new _ _ _ _)
 have c2 : W0.cell? ⟨w.heap.size+1,0,none⟩ = some (.int .u64 (hi64 (b : Int))):=by rw [← hW0];exact (cell?_newAt (by simp) _).trans rfl
 have c3 : W0.cell? ⟨w.heap.size+1,1,none⟩ = some (.int .u64 (lo64 (b : Int))):=by rw [← hW0];exact (cell?_newAt (by simp) _).trans rfl
 have l1:=lt_cell c2
 rw [hW0]
 clear hW0
 go_upto_region 1 with fail
 go_cut [5,6] (fun s5 s6 wx => ∃ g h,s5 = .pointer (some ⟨g,0,none⟩)∧s6 = .pointer (some ⟨h,0,none⟩)∧wx.rangeAt g 0 L1∧wx.rangeAt h 0 L2∧Below w.heap.size w wx)
 case first =>
  go_region_held3 (fun w' => w'.cell? ⟨w.heap.size,0,none⟩ = some (.int .u64 (hi64 (a : Int)))∧w'.cell? ⟨w.heap.size,1,none⟩ = some (.int .u64 (lo64 (a : Int)))∧w'.cell? ⟨w.heap.size+1,0,none⟩ = some (.int .u64 (hi64 (b : Int)))∧w'.cell? ⟨w.heap.size+1,1,none⟩ = some (.int .u64 (lo64 (b : Int)))∧Below w.heap.size w w') ((first|(go_split_ands;(repeat' apply And.intro) <;> (first|assumption|exact keep_cell hb2 (by assumption)|exact keep_below (by assumption) hb2|exact Below.drew (by assumption)|exact keep_alloc _ (by assumption)|exact keep_below_alloc _ (by assumption)|exact keep_cells (by assumption) (by first|(simp;done)|(simp;omega))|exact keep_below_cells (by omega) (by assumption)|exact blk_drew_below (by assumption) hb2|exact Blk.alloc (by assumption) _|exact Blk.drew (by assumption)|exact blk_far_cells (by assumption) (by first|(simp;done)|(simp;omega))|exact rng_below (by assumption) (by omega) hb2|exact rng_drew (by assumption)|exact rng_alloc (by assumption) (by omega) _|exact rng_set (rng_set (by assumption) (by first|(simp;done)|(simp;omega)) _) (by first|(simp;done)|(simp;omega)) _|exact keep_below_set2 (by assumption) (by first|(simp;done)|(simp;omega)) (by first|(simp;done)|(simp;omega))|exact keep_set _ (keep_set _ (by assumption) (by first|(simp;done)|(simp;omega))) (by first|(simp;done)|(simp;omega))))|(go_simp;done)|(simp [go_sem, *];done)))
   (first
    | ((refine goes Try.func48 (by kernel_rfl) rfl #[wd a] (by rfl) rfl rfl ?_ ?_;((try simp only [List.map_toArray,List.map_cons,List.map_nil]);rfl);(with_reducible refine ((hbits1 _).out).mono ?_);rintro e w2 ⟨rfl,hb2⟩;refine ⟨_,rfl,?_⟩);have hbk:=there_below hb2;(try (first|have t1:=hbk _ t1|have t1:=hbk _ (there_alloc _ _ _ t1)|have t1:=hbk _ (there_drew t1)|have t1:=hbk _ (there_alloc _ _ _ (there_alloc _ _ _ t1))));(try (first|have t2:=hbk _ t2|have t2:=hbk _ (there_alloc _ _ _ t2)|have t2:=hbk _ (there_drew t2)|have t2:=hbk _ (there_alloc _ _ _ (there_alloc _ _ _ t2))));(try (first|(have t3:=hbk _ (there_new1 _ _ _);have t1:=hbk _ (there_alloc _ _ _ (there_new _ _));have t2:=t3)|(have t3:=hbk _ (there_drew (there_new1 _ _ _));have t1:=hbk _ (there_drew (there_alloc _ _ _ (there_new _ _)));have t2:=t3)|(have t3:=hbk _ (there_new _ _);(try have t1:=t2);have t2:=t3)|(have t3:=hbk _ (there_drew (there_new _ _));(try have t1:=t2);have t2:=t3)));have hsz:=(hb2).size;(try simp only [World.drew] at hsz);(try simp only [World.size_alloc] at hsz))
    | ((refine goes Try.func48 (by kernel_rfl) rfl #[wd b] (by rfl) rfl rfl ?_ ?_;((try simp only [List.map_toArray,List.map_cons,List.map_nil]);rfl);(with_reducible refine ((hbits2 _).out).mono ?_);rintro e w2 ⟨rfl,hb2⟩;refine ⟨_,rfl,?_⟩);have hbk:=there_below hb2;(try (first|have t1:=hbk _ t1|have t1:=hbk _ (there_alloc _ _ _ t1)|have t1:=hbk _ (there_drew t1)|have t1:=hbk _ (there_alloc _ _ _ (there_alloc _ _ _ t1))));(try (first|have t2:=hbk _ t2|have t2:=hbk _ (there_alloc _ _ _ t2)|have t2:=hbk _ (there_drew t2)|have t2:=hbk _ (there_alloc _ _ _ (there_alloc _ _ _ t2))));(try (first|(have t3:=hbk _ (there_new1 _ _ _);have t1:=hbk _ (there_alloc _ _ _ (there_new _ _));have t2:=t3)|(have t3:=hbk _ (there_drew (there_new1 _ _ _));have t1:=hbk _ (there_drew (there_alloc _ _ _ (there_new _ _)));have t2:=t3)|(have t3:=hbk _ (there_new _ _);(try have t1:=t2);have t2:=t3)|(have t3:=hbk _ (there_drew (there_new _ _));(try have t1:=t2);have t2:=t3)));have hsz:=(hb2).size;(try simp only [World.drew] at hsz);(try simp only [World.size_alloc] at hsz)))
  all_goals
   go_wp2_with fail
   go_meet
   go_split_ands
   refine ⟨_,_,rfl,rfl,World.rangeAt_setCells_apart (rng_new (by (first|assumption|exact tnew _|exact tnew1 _ _|exact talloc _ _ _ (by assumption)|exact talloc _ _ _ (tnew _)|exact talloc _ _ _ (talloc _ _ _ (by assumption)))) hn1) _ _ _ (Or.inl (by omega)),rng_new (there_set _ _ _ _ (by (first|assumption|exact tnew _|exact tnew1 _ _|exact talloc _ _ _ (by assumption)|exact talloc _ _ _ (tnew _)|exact talloc _ _ _ (talloc _ _ _ (by assumption))))) hn2,by assumption⟩
 case rest =>
  obtain ⟨g,h,rfl,rfl,hr,hs,hB⟩:=hcut
  clear c0 c1 c2 c3 l1 hbits1 hbits2 tnew tnew1 talloc tset
  go_wp2
  go_loopw [7] (fun v7 wr => ∃ k : Nat,k ≤ 128∧v7 = .int .i64 ((k : Int) - 1)∧Hid (a / 2 ^ k = b / 2 ^ k)∧wr.rangeAt g 0 L1∧wr.rangeAt h 0 L2∧Below w.heap.size w wr) (fun v7 _ => (intOf v7+1).toNat)
  case atStart =>
   refine ⟨128,by omega,by go_num,Lib.hid ?_,hr,hs,hB⟩
   rw [Nat.div_eq_of_lt HA.out,Nat.div_eq_of_lt HB.out]
  case round =>
   obtain ⟨k1,hk,rfl,HE,q1,q2,hB⟩:=hrel
   rcases k1 with _|k
   ·rw [show (((0 : Nat) : Int) - 1) = -1 from rfl]
    have hab : a = b:=by have:=HE.out;simpa using this
    subst hab
    have e0 : cmpN (a : Int) (a : Int) = 0:=by unfold cmpN;rw [if_pos rfl]
    have H0:=Lib.hid e0
    clear e0
    go_wp2
    go_ret
    exact ⟨by rw [H0.out];rfl,hB⟩
   ·rw [show (((k+1 : Nat) : Int) - 1) = (k : Int) by omega]
    obtain ⟨hlt,hgt,heq⟩:=cmp_step a b k HE.out
    have hx1:=bt_le a k
    have hy1:=bt_le b k
    obtain ⟨x,hx⟩ : ∃ x,bt a k = x:=⟨_,rfl⟩
    obtain ⟨y,hy⟩ : ∃ y,bt b k = y:=⟨_,rfl⟩
    have f1 : wr.cell? ⟨g,k,none⟩ = some (.int .i64 (x : Int)):=by
     have:=q1 k (.int .i64 (x : Int)) (by rw [← HL1.out,fl_get _ (by omega),bf,hx])
     rwa [Nat.zero_add] at this
    have f2 : wr.cell? ⟨h,k,none⟩ = some (.int .i64 (y : Int)):=by
     have:=q2 k (.int .i64 (y : Int)) (by rw [← HL2.out,fl_get _ (by omega),bf,hy])
     rwa [Nat.zero_add] at this
    rw [hx,hy] at hlt hgt heq
    rw [hx] at hx1
    rw [hy] at hy1
    have i1 : (k : Int) < 260:=by omega
    have l1:=lt_cell f1
    have l2:=lt_cell f2
    clear hx hy
    by_cases hxy : x = y
    ·subst hxy
     have HQ:=Lib.hid (heq rfl)
     clear hlt hgt heq
     go_wp2
     go_quiet (fail)
     go_wp2
     go_roundw
     case rel =>
      exact ⟨k,by omega,rfl,HQ,q1,q2,below_drewN' hB⟩
     case measure => simp [intOf]
    ·have hne : ((x : Int) != (y : Int)) = true:=by simp;omega
     have hne2 : ¬ ((x : Int) = (y : Int)):=by omega
     have hv : (x : Int) - y = cmpN a b:=by
      unfold cmpN
      rcases Nat.lt_or_ge x y with h1|h1
      ·have:=hlt h1
       rw [if_neg (by omega),if_pos (by omega)];omega
      ·have:=hgt (by omega)
       rw [if_neg (by omega),if_neg (by omega)];omega
     have HV:=Lib.hid hv
     clear hv hlt hgt heq
     go_wp2
     go_quiet (fail)
     go_wp2
     go_quiet (fail)
     go_wp2
     go_ret
     exact ⟨by rw [← HV.out];rfl,below_drewN' (below_drewN' hB)⟩
end Go.Proofs.Ythlhmijgbjcloaa
