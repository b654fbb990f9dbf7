/- What the row of this claim reaches. No condition. -/
import Derived.Laws.BytesArg
import Derived.WalkKit
import Derived.StillTailTactics
import Derived.Deep.RegionHeld3
import Derived.Laws.Bits64b
import Derived.Test.YthlhmijgbjcloaaCX5
import Derived.Test.YthlhmijgbjcloaaLKeyUnionX0
set_option linter.unusedVariables false
set_option linter.unusedSimpArgs false
section
namespace Go.Proofs.Ythlhmijgbjcloaa.A
open Go.RowKit Go.Proofs.YthlhmijgbjcloaaW.PrintWords Go.Proofs.YthlhmijgbjcloaaW.PrintLast Go.Proofs.YthlhmijgbjcloaaW.PrintMore
attribute [local go_sem] max2_int min2_int max_two min_two max_three min_three max_four min_four   -- for this text's walks alone
theorem eqA25 (d : Nat) (w : World) (x0 y0 : Int) (x1 y1 : Int) :
    (Op.equalIn (d + 2) 25 (.agg #[.int .u64 x0, .int .u64 x1]) (.agg #[.int .u64 y0, .int .u64 y1])).run Try.prog w = .ok (x0 == y0 && (x1 == y1)) w := by
  refine eqA_of Try.underlying25 (by kernel_rfl) ?_
  refine eqf_cons (by rfl) (by go_simp; rfl) (by go_simp; rfl) (by go_simp) ?_
  exact eqf_last (by rfl) (by go_simp; rfl) (by go_simp; rfl) (by go_simp)
end Go.Proofs.Ythlhmijgbjcloaa.A
end
section
namespace Go.Proofs.Ythlhmijgbjcloaa.A
open Go.RowKit Go.Proofs.YthlhmijgbjcloaaW.PrintWords Go.Proofs.YthlhmijgbjcloaaW.PrintLast Go.Proofs.YthlhmijgbjcloaaW.PrintMore
attribute [local go_sem] max2_int min2_int max_two min_two max_three min_three max_four min_four   -- for this text's walks alone
attribute [local go_sem high] eqA25
def gazetteerlaw09_box.f (a0_0 : Int) (a0_1 : Int) (a0_2 : Int) (a0_3 : Int) : Option (Bool) := if a0_0 ≤ a0_1 then (some (decide (a0_2 ≤ a0_3))) else (some false)
set_option maxHeartbeats 8000000 in
set_option maxRecDepth 100000 in
theorem gazetteerlaw09_box.calls (a0_0 : Int) (a0_1 : Int) (a0_2 : Int) (a0_3 : Int) (r : Bool) (w : World) (h : gazetteerlaw09_box.f a0_0 a0_1 a0_2 a0_3 = some r) :
  Calls Try.prog 41 #[.agg #[.int .i64 a0_0,.int .i64 a0_1,.int .i64 a0_2,.int .i64 a0_3]] w fun e w' => e = .returned (.bool r)∧Below w.heap.size w w':=by
 have hu35:=Try.underlying35
 have HB:=Ak (Below.refl w.heap.size w)
 have H : (if a0_0 ≤ a0_1 then (some (decide (a0_2 ≤ a0_3))) else (some false)) = some r:=h
 clear h
 by_cases c2 : a0_0 ≤ a0_1
 ·rw [if_pos c2] at H
  have c2b0 : decide (a0_0 ≤ a0_1) = true:=decide_eq_true c2
  clear c2
  obtain rfl:=Option.some.inj H
  go_enter Try.func41,Try.ntmps41
  go_wp2_with (first|((with_reducible refine gate_dst (N:=1) rfl ?_);refine box_event ?hg (N:=1) ?hd (cs:=#[.int .i64 a0_0,.int .i64 a0_1,.int .i64 a0_2,.int .i64 a0_3]) (t:=35) ?hr ?_;(case hd => rfl);(case hg => rfl);(case hr => first|(go_simp;done)|(go_simp;rfl));intro gb337 hg w3 hbox hb;have n0_:=Kh HB hb;have n1_:=Ak (hbox);have n2_:=Ak ((by rw [hg];exact (below_size HB.out) : w.heap.size ≤ gb337));have n3_:=Ak ((by rw [hg];exact (below_size HB.out) : w.heap.size ≤ gb337));clear HB;have HB:=n0_;have BK337:=n1_;have GW337:=n2_;have GE337:=n3_;clear n0_ n1_ n2_ n3_;clear hb hbox hg;have hcz4_0 : w3.cell? ⟨gb337,0,none⟩ = some (.int .i64 a0_0):=(kC BK337.out 0).trans rfl;have hcz4_1 : w3.cell? ⟨gb337,1,none⟩ = some (.int .i64 a0_1):=(kC BK337.out 1).trans rfl;have hcz4_2 : w3.cell? ⟨gb337,2,none⟩ = some (.int .i64 a0_2):=(kC BK337.out 2).trans rfl;have hcz4_3 : w3.cell? ⟨gb337,3,none⟩ = some (.int .i64 a0_3):=(kC BK337.out 3).trans rfl;have hfz4_0:=blk_frozen BK337.out 0;have hfz4_1:=blk_frozen BK337.out 1;have hfz4_2:=blk_frozen BK337.out 2;have hfz4_3:=blk_frozen BK337.out 3))
  go_ret
  exact ⟨by first|rfl|(simp [errW_none,errW_some] <;> rfl)|(simp [*,errW_none,errW_some] <;> rfl),by repeat (first|(with_reducible first|exact HB.out|apply bA|apply bN|apply bD|refine bS ?_ GE337.out)|exact HB.out)⟩
 ·rw [if_neg c2] at H
  have c2b0 : decide (a0_0 ≤ a0_1) = false:=decide_eq_false c2
  clear c2
  obtain rfl:=Option.some.inj H
  go_enter Try.func41,Try.ntmps41
  go_wp2_with (first|((with_reducible refine gate_dst (N:=1) rfl ?_);refine box_event ?hg (N:=1) ?hd (cs:=#[.int .i64 a0_0,.int .i64 a0_1,.int .i64 a0_2,.int .i64 a0_3]) (t:=35) ?hr ?_;(case hd => rfl);(case hg => rfl);(case hr => first|(go_simp;done)|(go_simp;rfl));intro gb337 hg w5 hbox hb;have n0_:=Kh HB hb;have n1_:=Ak (hbox);have n2_:=Ak ((by rw [hg];exact (below_size HB.out) : w.heap.size ≤ gb337));have n3_:=Ak ((by rw [hg];exact (below_size HB.out) : w.heap.size ≤ gb337));clear HB;have HB:=n0_;have BK337:=n1_;have GW337:=n2_;have GE337:=n3_;clear n0_ n1_ n2_ n3_;clear hb hbox hg;have hcz6_0 : w5.cell? ⟨gb337,0,none⟩ = some (.int .i64 a0_0):=(kC BK337.out 0).trans rfl;have hcz6_1 : w5.cell? ⟨gb337,1,none⟩ = some (.int .i64 a0_1):=(kC BK337.out 1).trans rfl;have hcz6_2 : w5.cell? ⟨gb337,2,none⟩ = some (.int .i64 a0_2):=(kC BK337.out 2).trans rfl;have hcz6_3 : w5.cell? ⟨gb337,3,none⟩ = some (.int .i64 a0_3):=(kC BK337.out 3).trans rfl;have hfz6_0:=blk_frozen BK337.out 0;have hfz6_1:=blk_frozen BK337.out 1;have hfz6_2:=blk_frozen BK337.out 2;have hfz6_3:=blk_frozen BK337.out 3))
  go_ret
  exact ⟨by first|rfl|(simp [errW_none,errW_some] <;> rfl)|(simp [*,errW_none,errW_some] <;> rfl),by repeat (first|(with_reducible first|exact HB.out|apply bA|apply bN|apply bD|refine bS ?_ GE337.out)|exact HB.out)⟩
end Go.Proofs.Ythlhmijgbjcloaa.A
end
section
namespace Go.Proofs.Ythlhmijgbjcloaa.A
open Go.RowKit Go.Proofs.YthlhmijgbjcloaaW.PrintWords Go.Proofs.YthlhmijgbjcloaaW.PrintLast Go.Proofs.YthlhmijgbjcloaaW.PrintMore
attribute [local go_sem] max2_int min2_int max_two min_two max_three min_three max_four min_four   -- for this text's walks alone
attribute [local go_sem high] eqA25 eqA35
mutual
def gazetteerlaw09_KeyUnion.j0 : Nat → Bool → Int → Int → Int → Int → Int → Int → Int → Int → Int → Int → Int → Int → Int → Int → Int → Int → Option (Bool)
  | 0, _, _, _, _, _, _, _, _, _, _, _, _, _, _, _, _, _ => none
  | k + 1, x22, x339000, x339001, x339002, x339003, x340000, x340001, x340002, x340003, x341000, x341001, x341002, x341003, x347000, x347001, x347002, x347003 => if x22 = true then (some (x347000 == 0 && (x347001 == 0 && (x347002 == 0 && (x347003 == 0))))) else ((key_Covers.f x347000 x347001 x347002 x347003 x339000 x339001 x339002 x339003).bind fun t349 => (if t349 = true then ((key_Covers.f x347000 x347001 x347002 x347003 x340000 x340001 x340002 x340003).bind fun t350 => (if t350 = true then ((key_Union.f x340000 x340001 x340002 x340003 x339000 x339001 x339002 x339003).bind fun bt351 => (if (!(x347000 == bt351.1) || (!(x347001 == bt351.2.1) || (!(x347002 == bt351.2.2.1) || (!(x347003 == bt351.2.2.2))))) = true then (gazetteerlaw09_KeyUnion.j1 k true x339000 x339001 x339002 x339003 x340000 x340001 x340002 x340003 x341000 x341001 x341002 x341003 x347000 x347001 x347002 x347003) else ((key_Union.f x339000 x339001 x339002 x339003 x339000 x339001 x339002 x339003).bind fun bt355 => (gazetteerlaw09_KeyUnion.j1 k (!(bt355.1 == x339000) || (!(bt355.2.1 == x339001) || (!(bt355.2.2.1 == x339002) || (!(bt355.2.2.2 == x339003))))) x339000 x339001 x339002 x339003 x340000 x340001 x340002 x340003 x341000 x341001 x341002 x341003 x347000 x347001 x347002 x347003)))) else (gazetteerlaw09_KeyUnion.j1 k true x339000 x339001 x339002 x339003 x340000 x340001 x340002 x340003 x341000 x341001 x341002 x341003 x347000 x347001 x347002 x347003))) else (gazetteerlaw09_KeyUnion.j1 k true x339000 x339001 x339002 x339003 x340000 x340001 x340002 x340003 x341000 x341001 x341002 x341003 x347000 x347001 x347002 x347003)))
def gazetteerlaw09_KeyUnion.j1 : Nat → Bool → Int → Int → Int → Int → Int → Int → Int → Int → Int → Int → Int → Int → Int → Int → Int → Int → Option (Bool)
  | 0, _, _, _, _, _, _, _, _, _, _, _, _, _, _, _, _, _ => none
  | k + 1, x49, x339000, x339001, x339002, x339003, x340000, x340001, x340002, x340003, x341000, x341001, x341002, x341003, x347000, x347001, x347002, x347003 => if x49 = true then (some false) else ((key_Covers.f x341000 x341001 x341002 x341003 x339000 x339001 x339002 x339003).bind fun t359 => (if t359 = true then ((key_Covers.f x341000 x341001 x341002 x341003 x340000 x340001 x340002 x340003).bind fun t360 => (if t360 = true then ((key_Covers.f x341000 x341001 x341002 x341003 x347000 x347001 x347002 x347003).bind fun t361 => (if t361 = true then ((key_Grows.f x347000 x347001 x347002 x347003 x339000 x339001 x339002 x339003).bind fun bt362 => (if (bt362.1 == 0 && (bt362.2.1 == 0)) = true then (some (bt362.2.2.1 == 0 && (bt362.2.2.2 == 0))) else (some false))) else (some false))) else ((key_Grows.f x347000 x347001 x347002 x347003 x339000 x339001 x339002 x339003).bind fun bt368 => (if (bt368.1 == 0 && (bt368.2.1 == 0)) = true then (some (bt368.2.2.1 == 0 && (bt368.2.2.2 == 0))) else (some false))))) else ((key_Grows.f x347000 x347001 x347002 x347003 x339000 x339001 x339002 x339003).bind fun bt374 => (if (bt374.1 == 0 && (bt374.2.1 == 0)) = true then (some (bt374.2.2.1 == 0 && (bt374.2.2.2 == 0))) else (some false)))))
end
def gazetteerlaw09_KeyUnion.f (k : Nat) (a0_0 : Int) (a0_1 : Int) (a0_2 : Int) (a0_3 : Int) (a1_0 : Int) (a1_1 : Int) (a1_2 : Int) (a1_3 : Int) (a2_0 : Int) (a2_1 : Int) (a2_2 : Int) (a2_3 : Int) : Option (Bool) := (gazetteerlaw09_wakes.f k).bind fun t341 => (if t341 = true then ((key_Union.f a0_0 a0_1 a0_2 a0_3 a1_0 a1_1 a1_2 a1_3).bind fun bt342 => ((gazetteerlaw09_box.f a0_0 a0_1 a0_2 a0_3).bind fun t347 => (if t347 = true then ((gazetteerlaw09_box.f a1_0 a1_1 a1_2 a1_3).bind fun t348 => (gazetteerlaw09_KeyUnion.j0 k (!t348) a0_0 a0_1 a0_2 a0_3 a1_0 a1_1 a1_2 a1_3 a2_0 a2_1 a2_2 a2_3 bt342.1 bt342.2.1 bt342.2.2.1 bt342.2.2.2)) else (gazetteerlaw09_KeyUnion.j0 k true a0_0 a0_1 a0_2 a0_3 a1_0 a1_1 a1_2 a1_3 a2_0 a2_1 a2_2 a2_3 bt342.1 bt342.2.1 bt342.2.2.1 bt342.2.2.2)))) else (some false))
def gazetteerlaw09_KeyUnion.T6 : Bool × List (List Nat × List Nat) := (true, [([], []), ([], []), ([0, 1], [0, 1]), ([2], [2]), ([3, 2], [3]), ([4], [4]), ([4], [4]), ([5, 6, 4, 4], [4, 5, 6]), ([7, 4], [4, 7]), ([4, 8], [4, 8]), ([9, 7], [9]), ([10], [10]), ([10], [10]), ([10], [10]), ([12, 13, 10, 10], [10, 12, 13]), ([11, 14, 10], [10, 11, 14]), ([10, 15], [10, 15]), ([16, 14], [16]), ([17], [17]), ([17], [17]), ([18, 19, 17, 17], [17, 18, 19]), ([17], [17]), ([20, 21, 17], [17, 20, 21]), ([17, 22], [17, 22])])
def gazetteerlaw09_KeyUnion.B6 : List Nat := [0, 0, 3, 7, 15, 31, 31, 127, 255, 511, 1023, 2047, 2047, 2047, 14335, 32767, 65535, 131071, 262143, 262143, 1048575, 262143, 4194303, 8388607]
theorem gazetteerlaw09_KeyUnion.tab6 : rtab .any (opsOf Try.f13 6) = gazetteerlaw09_KeyUnion.T6 := by kernel_rfl
theorem gazetteerlaw09_KeyUnion.bits6 : waitsOk gazetteerlaw09_KeyUnion.T6.2 gazetteerlaw09_KeyUnion.B6 = true := by kernel_rfl
set_option maxHeartbeats 8000000 in
set_option maxRecDepth 100000 in
theorem gazetteerlaw09_KeyUnion.calls (k : Nat) (a0_0 : Int) (a0_1 : Int) (a0_2 : Int) (a0_3 : Int) (a1_0 : Int) (a1_1 : Int) (a1_2 : Int) (a1_3 : Int) (a2_0 : Int) (a2_1 : Int) (a2_2 : Int) (a2_3 : Int) (r : Bool) (w : World) (h : gazetteerlaw09_KeyUnion.f k a0_0 a0_1 a0_2 a0_3 a1_0 a1_1 a1_2 a1_3 a2_0 a2_1 a2_2 a2_3 = some r) :
  Calls Try.prog 13 #[.agg #[.int .i64 a0_0,.int .i64 a0_1,.int .i64 a0_2,.int .i64 a0_3],.agg #[.int .i64 a1_0,.int .i64 a1_1,.int .i64 a1_2,.int .i64 a1_3],.agg #[.int .i64 a2_0,.int .i64 a2_1,.int .i64 a2_2,.int .i64 a2_3]] w fun e w' => e = .returned (.bool r)∧Below w.heap.size w w':=by
 have hu35:=Try.underlying35
 have hu25:=Try.underlying25
 have HB:=Ak (Below.refl w.heap.size w)
 have H : ((gazetteerlaw09_wakes.f k).bind fun t341 => (if t341 = true then ((key_Union.f a0_0 a0_1 a0_2 a0_3 a1_0 a1_1 a1_2 a1_3).bind fun bt342 => ((gazetteerlaw09_box.f a0_0 a0_1 a0_2 a0_3).bind fun t347 => (if t347 = true then ((gazetteerlaw09_box.f a1_0 a1_1 a1_2 a1_3).bind fun t348 => (gazetteerlaw09_KeyUnion.j0 k (!t348) a0_0 a0_1 a0_2 a0_3 a1_0 a1_1 a1_2 a1_3 a2_0 a2_1 a2_2 a2_3 bt342.1 bt342.2.1 bt342.2.2.1 bt342.2.2.2)) else (gazetteerlaw09_KeyUnion.j0 k true a0_0 a0_1 a0_2 a0_3 a1_0 a1_1 a1_2 a1_3 a2_0 a2_1 a2_2 a2_3 bt342.1 bt342.2.1 bt342.2.2.1 bt342.2.2.2)))) else (some false))) = some r:=h
 clear h
 replace H:=Option.bind_eq_some_iff.mp H
 obtain ⟨t341,A40,H⟩:=H
 replace H : (if t341 = true then ((key_Union.f a0_0 a0_1 a0_2 a0_3 a1_0 a1_1 a1_2 a1_3).bind fun bt342 => ((gazetteerlaw09_box.f a0_0 a0_1 a0_2 a0_3).bind fun t347 => (if t347 = true then ((gazetteerlaw09_box.f a1_0 a1_1 a1_2 a1_3).bind fun t348 => (gazetteerlaw09_KeyUnion.j0 k (!t348) a0_0 a0_1 a0_2 a0_3 a1_0 a1_1 a1_2 a1_3 a2_0 a2_1 a2_2 a2_3 bt342.1 bt342.2.1 bt342.2.2.1 bt342.2.2.2)) else (gazetteerlaw09_KeyUnion.j0 k true a0_0 a0_1 a0_2 a0_3 a1_0 a1_1 a1_2 a1_3 a2_0 a2_1 a2_2 a2_3 bt342.1 bt342.2.1 bt342.2.2.1 bt342.2.2.2)))) else (some false)) = some r:=H
 have A4:=Ak A40
 clear A40
 by_cases c5 : t341 = true
 ·subst c5
  have H1 : ((key_Union.f a0_0 a0_1 a0_2 a0_3 a1_0 a1_1 a1_2 a1_3).bind fun bt342 => ((gazetteerlaw09_box.f a0_0 a0_1 a0_2 a0_3).bind fun t347 => (if t347 = true then ((gazetteerlaw09_box.f a1_0 a1_1 a1_2 a1_3).bind fun t348 => (gazetteerlaw09_KeyUnion.j0 k (!t348) a0_0 a0_1 a0_2 a0_3 a1_0 a1_1 a1_2 a1_3 a2_0 a2_1 a2_2 a2_3 bt342.1 bt342.2.1 bt342.2.2.1 bt342.2.2.2)) else (gazetteerlaw09_KeyUnion.j0 k true a0_0 a0_1 a0_2 a0_3 a1_0 a1_1 a1_2 a1_3 a2_0 a2_1 a2_2 a2_3 bt342.1 bt342.2.1 bt342.2.2.1 bt342.2.2.2)))) = some r:=by rw [if_pos rfl] at H;exact H
  clear H
  have H:=H1
  clear H1
  replace H:=Option.bind_eq_some_iff.mp H
  obtain ⟨⟨t342,t343,t344,t345⟩,A60,H⟩:=H
  replace H : ((gazetteerlaw09_box.f a0_0 a0_1 a0_2 a0_3).bind fun t347 => (if t347 = true then ((gazetteerlaw09_box.f a1_0 a1_1 a1_2 a1_3).bind fun t348 => (gazetteerlaw09_KeyUnion.j0 k (!t348) a0_0 a0_1 a0_2 a0_3 a1_0 a1_1 a1_2 a1_3 a2_0 a2_1 a2_2 a2_3 t342 t343 t344 t345)) else (gazetteerlaw09_KeyUnion.j0 k true a0_0 a0_1 a0_2 a0_3 a1_0 a1_1 a1_2 a1_3 a2_0 a2_1 a2_2 a2_3 t342 t343 t344 t345))) = some r:=H
  have A6:=Ak A60
  clear A60
  have HC7:=Ak H
  clear H
  go_enter Try.func13,Try.ntmps13
  go_upto_region 4 with (first|((with_reducible refine gate_dst (N:=3) rfl ?_);refine box_event ?hg (N:=3) ?hd (cs:=#[.int .i64 a0_0,.int .i64 a0_1,.int .i64 a0_2,.int .i64 a0_3]) (t:=35) ?hr ?_;(case hd => rfl);(case hg => rfl);(case hr => first|(go_simp;done)|(go_simp;rfl));intro gb338 hg w8 hbox hb;have n0_:=Kh HB hb;have n1_:=Ak (hbox);have n2_:=Ak ((by rw [hg];exact (below_size HB.out) : w.heap.size ≤ gb338));have n3_:=Ak ((by rw [hg];exact (below_size HB.out) : w.heap.size ≤ gb338));clear HB;have HB:=n0_;have BK338:=n1_;have GW338:=n2_;have GE338:=n3_;clear n0_ n1_ n2_ n3_;clear hb hbox hg)|((with_reducible refine gate_dst (N:=4) rfl ?_);refine box_event ?hg (N:=4) ?hd (cs:=#[.int .i64 a1_0,.int .i64 a1_1,.int .i64 a1_2,.int .i64 a1_3]) (t:=35) ?hr ?_;(case hd => rfl);(case hg => rfl);(case hr => first|(go_simp;done)|(go_simp;rfl));intro gb339 hg w9 hbox hb;have n0_:=Kb BK338 hb;have n1_:=Kh HB hb;have n2_:=Ak (hbox);have n3_:=Ak ((by rw [hg];exact (below_size HB.out) : w.heap.size ≤ gb339));have n4_:=Ak ((by rw [hg];exact (below_size HB.out) : w.heap.size ≤ gb339));have n5_:=Ak ((by rw [hg];exact Nat.ne_of_lt (blk_lt (g:=gb338) (o:=.cells #[.int .i64 a0_0,.int .i64 a0_1,.int .i64 a0_2,.int .i64 a0_3] 35 (0,0)) BK338.out) : gb338 ≠ gb339));have n6_:=Ak ((by rw [hg];exact Nat.ne_of_gt (blk_lt (g:=gb338) (o:=.cells #[.int .i64 a0_0,.int .i64 a0_1,.int .i64 a0_2,.int .i64 a0_3] 35 (0,0)) BK338.out) : gb339 ≠ gb338));clear BK338;clear HB;have BK338:=n0_;have HB:=n1_;have BK339:=n2_;have GW339:=n3_;have GE339:=n4_;have NB338_339:=n5_;have NB339_338:=n6_;clear n0_ n1_ n2_ n3_ n4_ n5_ n6_;clear hb hbox hg)|((with_reducible refine gate_dst (N:=5) rfl ?_);refine box_event ?hg (N:=5) ?hd (cs:=#[.int .i64 a2_0,.int .i64 a2_1,.int .i64 a2_2,.int .i64 a2_3]) (t:=35) ?hr ?_;(case hd => rfl);(case hg => rfl);(case hr => first|(go_simp;done)|(go_simp;rfl));intro gb340 hg w10 hbox hb;have n0_:=Kb BK338 hb;have n1_:=Kb BK339 hb;have n2_:=Kh HB hb;have n3_:=Ak (hbox);have n4_:=Ak ((by rw [hg];exact (below_size HB.out) : w.heap.size ≤ gb340));have n5_:=Ak ((by rw [hg];exact (below_size HB.out) : w.heap.size ≤ gb340));have n6_:=Ak ((by rw [hg];exact Nat.ne_of_lt (blk_lt (g:=gb338) (o:=.cells #[.int .i64 a0_0,.int .i64 a0_1,.int .i64 a0_2,.int .i64 a0_3] 35 (0,0)) BK338.out) : gb338 ≠ gb340));have n7_:=Ak ((by rw [hg];exact Nat.ne_of_gt (blk_lt (g:=gb338) (o:=.cells #[.int .i64 a0_0,.int .i64 a0_1,.int .i64 a0_2,.int .i64 a0_3] 35 (0,0)) BK338.out) : gb340 ≠ gb338));have n8_:=Ak ((by rw [hg];exact Nat.ne_of_lt (blk_lt (g:=gb339) (o:=.cells #[.int .i64 a1_0,.int .i64 a1_1,.int .i64 a1_2,.int .i64 a1_3] 35 (0,0)) BK339.out) : gb339 ≠ gb340));have n9_:=Ak ((by rw [hg];exact Nat.ne_of_gt (blk_lt (g:=gb339) (o:=.cells #[.int .i64 a1_0,.int .i64 a1_1,.int .i64 a1_2,.int .i64 a1_3] 35 (0,0)) BK339.out) : gb340 ≠ gb339));clear BK338;clear BK339;clear HB;have BK338:=n0_;have BK339:=n1_;have HB:=n2_;have BK340:=n3_;have GW340:=n4_;have GE340:=n5_;have NB338_340:=n6_;have NB340_338:=n7_;have NB339_340:=n8_;have NB340_339:=n9_;clear n0_ n1_ n2_ n3_ n4_ n5_ n6_ n7_ n8_ n9_;clear hb hbox hg)|((with_reducible refine gate_callee (f:=32) rfl ?_);refine goesL_ (some 10) rfl rfl Try.func32 (by kernel_rfl) rfl #[] rfl (by (try simp only [List.map_toArray,List.map_cons,List.map_nil]);first|done|rfl|(simp only [List.length_drop,List.length_take];rfl)) ?_;(with_reducible refine (gazetteerlaw09_wakes.calls k  true _ A4.out).mono ?_);rintro e w11 ⟨rfl,hb⟩;refine ⟨_,rfl,?_⟩;have n0_:=Kb BK338 hb;have n1_:=Kb BK339 hb;have n2_:=Kb BK340 hb;have n3_:=Kh HB hb;clear BK338;clear BK339;clear BK340;clear HB;have BK338:=n0_;have BK339:=n1_;have BK340:=n2_;have HB:=n3_;clear n0_ n1_ n2_ n3_;(try clear hb);(try clear hb2);(try clear hk);(try clear hi);have hnb12:=NB338_339.out;have hnc12:=NB339_338.out;have hnb13:=NB338_340.out;have hnc13:=NB340_338.out;have hcz14_0 : w11.cell? ⟨gb338,0,none⟩ = some (.int .i64 a0_0):=(kC BK338.out 0).trans rfl;have hcz14_1 : w11.cell? ⟨gb338,1,none⟩ = some (.int .i64 a0_1):=(kC BK338.out 1).trans rfl;have hcz14_2 : w11.cell? ⟨gb338,2,none⟩ = some (.int .i64 a0_2):=(kC BK338.out 2).trans rfl;have hcz14_3 : w11.cell? ⟨gb338,3,none⟩ = some (.int .i64 a0_3):=(kC BK338.out 3).trans rfl;have hfz14_0:=blk_frozen BK338.out 0;have hfz14_1:=blk_frozen BK338.out 1;have hfz14_2:=blk_frozen BK338.out 2;have hfz14_3:=blk_frozen BK338.out 3;have hnb15:=NB339_340.out;have hnc15:=NB340_339.out;have hcz16_0 : w11.cell? ⟨gb339,0,none⟩ = some (.int .i64 a1_0):=(kC BK339.out 0).trans rfl;have hcz16_1 : w11.cell? ⟨gb339,1,none⟩ = some (.int .i64 a1_1):=(kC BK339.out 1).trans rfl;have hcz16_2 : w11.cell? ⟨gb339,2,none⟩ = some (.int .i64 a1_2):=(kC BK339.out 2).trans rfl;have hcz16_3 : w11.cell? ⟨gb339,3,none⟩ = some (.int .i64 a1_3):=(kC BK339.out 3).trans rfl;have hfz16_0:=blk_frozen BK339.out 0;have hfz16_1:=blk_frozen BK339.out 1;have hfz16_2:=blk_frozen BK339.out 2;have hfz16_3:=blk_frozen BK339.out 3)|((with_reducible refine gate_callee (f:=40) rfl ?_);refine goesL_ (some 14) rfl rfl Try.func40 (by kernel_rfl) rfl #[.agg #[.int .i64 a0_0,.int .i64 a0_1,.int .i64 a0_2,.int .i64 a0_3],.agg #[.int .i64 a1_0,.int .i64 a1_1,.int .i64 a1_2,.int .i64 a1_3]] rfl (by (try simp only [List.map_toArray,List.map_cons,List.map_nil]);first|done|rfl|(simp only [List.length_drop,List.length_take];rfl)) ?_;(with_reducible refine (key_Union.calls a0_0 a0_1 a0_2 a0_3 a1_0 a1_1 a1_2 a1_3 t342 t343 t344 t345 _ A6.out).mono ?_);rintro e w17 ⟨rfl,hb⟩;refine ⟨_,rfl,?_⟩;have n0_:=Kb BK338 hb;have n1_:=Kb BK339 hb;have n2_:=Kb BK340 hb;have n3_:=Kh HB hb;clear BK338;clear BK339;clear BK340;clear HB;have BK338:=n0_;have BK339:=n1_;have BK340:=n2_;have HB:=n3_;clear n0_ n1_ n2_ n3_;(try clear hb);(try clear hb2);(try clear hk);(try clear hi))|((with_reducible refine gate_dst (N:=7) rfl ?_);refine box_event ?hg (N:=7) ?hd (cs:=#[.int .i64 0,.int .i64 0,.int .i64 0,.int .i64 0]) (t:=35) ?hr ?_;(case hd => rfl);(case hg => rfl);(case hr => first|(go_simp;done)|(go_simp;rfl));intro gb346 hg w18 hbox hb;have n0_:=Kb BK338 hb;have n1_:=Kb BK339 hb;have n2_:=Kb BK340 hb;have n3_:=Kh HB hb;have n4_:=Ak (hbox);have n5_:=Ak ((by rw [hg];exact (below_size HB.out) : w.heap.size ≤ gb346));have n6_:=Ak ((by rw [hg];exact (below_size HB.out) : w.heap.size ≤ gb346));have n7_:=Ak ((by rw [hg];exact Nat.ne_of_lt (blk_lt (g:=gb338) (o:=.cells #[.int .i64 a0_0,.int .i64 a0_1,.int .i64 a0_2,.int .i64 a0_3] 35 (0,0)) BK338.out) : gb338 ≠ gb346));have n8_:=Ak ((by rw [hg];exact Nat.ne_of_gt (blk_lt (g:=gb338) (o:=.cells #[.int .i64 a0_0,.int .i64 a0_1,.int .i64 a0_2,.int .i64 a0_3] 35 (0,0)) BK338.out) : gb346 ≠ gb338));have n9_:=Ak ((by rw [hg];exact Nat.ne_of_lt (blk_lt (g:=gb339) (o:=.cells #[.int .i64 a1_0,.int .i64 a1_1,.int .i64 a1_2,.int .i64 a1_3] 35 (0,0)) BK339.out) : gb339 ≠ gb346));have n10_:=Ak ((by rw [hg];exact Nat.ne_of_gt (blk_lt (g:=gb339) (o:=.cells #[.int .i64 a1_0,.int .i64 a1_1,.int .i64 a1_2,.int .i64 a1_3] 35 (0,0)) BK339.out) : gb346 ≠ gb339));have n11_:=Ak ((by rw [hg];exact Nat.ne_of_lt (blk_lt (g:=gb340) (o:=.cells #[.int .i64 a2_0,.int .i64 a2_1,.int .i64 a2_2,.int .i64 a2_3] 35 (0,0)) BK340.out) : gb340 ≠ gb346));have n12_:=Ak ((by rw [hg];exact Nat.ne_of_gt (blk_lt (g:=gb340) (o:=.cells #[.int .i64 a2_0,.int .i64 a2_1,.int .i64 a2_2,.int .i64 a2_3] 35 (0,0)) BK340.out) : gb346 ≠ gb340));clear BK338;clear BK339;clear BK340;clear HB;have BK338:=n0_;have BK339:=n1_;have BK340:=n2_;have HB:=n3_;have BK346:=n4_;have GW346:=n5_;have GE346:=n6_;have NB338_346:=n7_;have NB346_338:=n8_;have NB339_346:=n9_;have NB346_339:=n10_;have NB340_346:=n11_;have NB346_340:=n12_;clear n0_ n1_ n2_ n3_ n4_ n5_ n6_ n7_ n8_ n9_ n10_ n11_ n12_;clear hb hbox hg;have hnb19:=NB346_338.out;have hnc19:=NB338_346.out;have hnb20:=NB346_339.out;have hnc20:=NB339_346.out;have hnb21:=NB346_340.out;have hnc21:=NB340_346.out;have hcz22_0 : w18.cell? ⟨gb346,0,none⟩ = some (.int .i64 0):=(kC BK346.out 0).trans rfl;have hcz22_1 : w18.cell? ⟨gb346,1,none⟩ = some (.int .i64 0):=(kC BK346.out 1).trans rfl;have hcz22_2 : w18.cell? ⟨gb346,2,none⟩ = some (.int .i64 0):=(kC BK346.out 2).trans rfl;have hcz22_3 : w18.cell? ⟨gb346,3,none⟩ = some (.int .i64 0):=(kC BK346.out 3).trans rfl;have hfz22_0:=blk_frozen BK346.out 0;have hfz22_1:=blk_frozen BK346.out 1;have hfz22_2:=blk_frozen BK346.out 2;have hfz22_3:=blk_frozen BK346.out 3))
  (try simp only [Act.put,sA,sZ,sS])
  go_cut [22] (fun v22 wc => ∃ (kq : Nat) (x22_6 : Bool),v22 = .bool x22_6∧Aside0 (gazetteerlaw09_KeyUnion.j0 kq x22_6 a0_0 a0_1 a0_2 a0_3 a1_0 a1_1 a1_2 a1_3 a2_0 a2_1 a2_2 a2_3 t342 t343 t344 t345 = some r)∧Aside0 (kq ≤ k)∧Aside0 (wc.heap[gb338]? = some (.cells #[.int .i64 a0_0,.int .i64 a0_1,.int .i64 a0_2,.int .i64 a0_3] 35 (0,0)))∧Aside0 (wc.heap[gb339]? = some (.cells #[.int .i64 a1_0,.int .i64 a1_1,.int .i64 a1_2,.int .i64 a1_3] 35 (0,0)))∧Aside0 (wc.heap[gb340]? = some (.cells #[.int .i64 a2_0,.int .i64 a2_1,.int .i64 a2_2,.int .i64 a2_3] 35 (0,0)))∧Aside0 (wc.heap[gb346]? = some (.cells #[.int .i64 t342,.int .i64 t343,.int .i64 t344,.int .i64 t345] 35 (0,0)))∧Aside0 (Below w.heap.size w wc))
  case first =>
   have H:=HC7.out
   clear HC7
   replace H:=Option.bind_eq_some_iff.mp H
   obtain ⟨t347,A230,H⟩:=H
   replace H : (if t347 = true then ((gazetteerlaw09_box.f a1_0 a1_1 a1_2 a1_3).bind fun t348 => (gazetteerlaw09_KeyUnion.j0 k (!t348) a0_0 a0_1 a0_2 a0_3 a1_0 a1_1 a1_2 a1_3 a2_0 a2_1 a2_2 a2_3 t342 t343 t344 t345)) else (gazetteerlaw09_KeyUnion.j0 k true a0_0 a0_1 a0_2 a0_3 a1_0 a1_1 a1_2 a1_3 a2_0 a2_1 a2_2 a2_3 t342 t343 t344 t345)) = some r:=H
   have A23:=Ak A230
   clear A230
   by_cases c24 : t347 = true
   ·subst c24
    have H1 : ((gazetteerlaw09_box.f a1_0 a1_1 a1_2 a1_3).bind fun t348 => (gazetteerlaw09_KeyUnion.j0 k (!t348) a0_0 a0_1 a0_2 a0_3 a1_0 a1_1 a1_2 a1_3 a2_0 a2_1 a2_2 a2_3 t342 t343 t344 t345)) = some r:=by rw [if_pos rfl] at H;exact H
    clear H
    have H:=H1
    clear H1
    replace H:=Option.bind_eq_some_iff.mp H
    obtain ⟨t348,A250,H⟩:=H
    replace H : (gazetteerlaw09_KeyUnion.j0 k (!t348) a0_0 a0_1 a0_2 a0_3 a1_0 a1_1 a1_2 a1_3 a2_0 a2_1 a2_2 a2_3 t342 t343 t344 t345) = some r:=H
    have A25:=Ak A250
    clear A250
    have H':=Ak H
    clear H
    have hnb26:=NB338_339.out
    have hnc26:=NB339_338.out
    have hnb27:=NB338_340.out
    have hnc27:=NB340_338.out
    have hnb28:=NB338_346.out
    have hnc28:=NB346_338.out
    have hcz29_0 : w18.cell? ⟨gb338,0,none⟩ = some (.int .i64 a0_0):=(kC BK338.out 0).trans rfl
    have hcz29_1 : w18.cell? ⟨gb338,1,none⟩ = some (.int .i64 a0_1):=(kC BK338.out 1).trans rfl
    have hcz29_2 : w18.cell? ⟨gb338,2,none⟩ = some (.int .i64 a0_2):=(kC BK338.out 2).trans rfl
    have hcz29_3 : w18.cell? ⟨gb338,3,none⟩ = some (.int .i64 a0_3):=(kC BK338.out 3).trans rfl
    have hfz29_0:=blk_frozen BK338.out 0
    have hfz29_1:=blk_frozen BK338.out 1
    have hfz29_2:=blk_frozen BK338.out 2
    have hfz29_3:=blk_frozen BK338.out 3
    go_wp2_with (first|((with_reducible refine gate_callee (f:=41) rfl ?_);refine goesL_ (some 16) rfl rfl Try.func41 (by kernel_rfl) rfl #[.agg #[.int .i64 a0_0,.int .i64 a0_1,.int .i64 a0_2,.int .i64 a0_3]] rfl (by (try simp only [List.map_toArray,List.map_cons,List.map_nil]);first|done|rfl|(simp only [List.length_drop,List.length_take];rfl)) ?_;(with_reducible refine (gazetteerlaw09_box.calls a0_0 a0_1 a0_2 a0_3 true _ A23.out).mono ?_);rintro e w30 ⟨rfl,hb⟩;refine ⟨_,rfl,?_⟩;have n0_:=Ak (kB (g:=gb338) (o:=.cells #[.int .i64 a0_0,.int .i64 a0_1,.int .i64 a0_2,.int .i64 a0_3] 35 (0,0)) (by (with_reducible repeat (first|refine kN ?_ _|refine kD ?_|refine kA ?_ _));refine blk_far ?_ NB338_346.out _;(with_reducible repeat (first|refine kN ?_ _|refine kD ?_|refine kA ?_ _));refine blk_far ?_ NB338_346.out _;(with_reducible repeat (first|refine kN ?_ _|refine kD ?_|refine kA ?_ _));refine blk_far ?_ NB338_346.out _;(with_reducible repeat (first|refine kN ?_ _|refine kD ?_|refine kA ?_ _));refine blk_far ?_ NB338_346.out _;(with_reducible repeat (first|refine kN ?_ _|refine kD ?_|refine kA ?_ _));exact BK338.out) hb);have n1_:=Ak (kB (g:=gb339) (o:=.cells #[.int .i64 a1_0,.int .i64 a1_1,.int .i64 a1_2,.int .i64 a1_3] 35 (0,0)) (by (with_reducible repeat (first|refine kN ?_ _|refine kD ?_|refine kA ?_ _));refine blk_far ?_ NB339_346.out _;(with_reducible repeat (first|refine kN ?_ _|refine kD ?_|refine kA ?_ _));refine blk_far ?_ NB339_346.out _;(with_reducible repeat (first|refine kN ?_ _|refine kD ?_|refine kA ?_ _));refine blk_far ?_ NB339_346.out _;(with_reducible repeat (first|refine kN ?_ _|refine kD ?_|refine kA ?_ _));refine blk_far ?_ NB339_346.out _;(with_reducible repeat (first|refine kN ?_ _|refine kD ?_|refine kA ?_ _));exact BK339.out) hb);have n2_:=Ak (kB (g:=gb340) (o:=.cells #[.int .i64 a2_0,.int .i64 a2_1,.int .i64 a2_2,.int .i64 a2_3] 35 (0,0)) (by (with_reducible repeat (first|refine kN ?_ _|refine kD ?_|refine kA ?_ _));refine blk_far ?_ NB340_346.out _;(with_reducible repeat (first|refine kN ?_ _|refine kD ?_|refine kA ?_ _));refine blk_far ?_ NB340_346.out _;(with_reducible repeat (first|refine kN ?_ _|refine kD ?_|refine kA ?_ _));refine blk_far ?_ NB340_346.out _;(with_reducible repeat (first|refine kN ?_ _|refine kD ?_|refine kA ?_ _));refine blk_far ?_ NB340_346.out _;(with_reducible repeat (first|refine kN ?_ _|refine kD ?_|refine kA ?_ _));exact BK340.out) hb);have n3_:=Ak (kB (g:=gb346) (o:=.cells #[.int .i64 t342,.int .i64 t343,.int .i64 t344,.int .i64 t345] 35 (0,0)) (by (with_reducible repeat (first|refine kN ?_ _|refine kD ?_|refine kA ?_ _));refine blk_put (cs:=#[.int .i64 t342,.int .i64 t343,.int .i64 t344,.int .i64 0]) ?_ 3 _ rfl;(with_reducible repeat (first|refine kN ?_ _|refine kD ?_|refine kA ?_ _));refine blk_put (cs:=#[.int .i64 t342,.int .i64 t343,.int .i64 0,.int .i64 0]) ?_ 2 _ rfl;(with_reducible repeat (first|refine kN ?_ _|refine kD ?_|refine kA ?_ _));refine blk_put (cs:=#[.int .i64 t342,.int .i64 0,.int .i64 0,.int .i64 0]) ?_ 1 _ rfl;(with_reducible repeat (first|refine kN ?_ _|refine kD ?_|refine kA ?_ _));refine blk_put (cs:=#[.int .i64 0,.int .i64 0,.int .i64 0,.int .i64 0]) ?_ 0 _ rfl;(with_reducible repeat (first|refine kN ?_ _|refine kD ?_|refine kA ?_ _));exact BK346.out) hb);have n4_:=Ak (below_step (by repeat (first|(with_reducible first|exact HB.out|apply bA|apply bN|apply bD|refine bS ?_ GE338.out|refine bS ?_ GE339.out|refine bS ?_ GE340.out|refine bS ?_ GE346.out)|exact HB.out)) hb);clear BK338;clear BK339;clear BK340;clear BK346;clear HB;have BK338:=n0_;have BK339:=n1_;have BK340:=n2_;have BK346:=n3_;have HB:=n4_;clear n0_ n1_ n2_ n3_ n4_;(try clear hb);(try clear hb2);(try clear hk);(try clear hi);have hnb31:=NB339_340.out;have hnc31:=NB340_339.out;have hnb32:=NB339_346.out;have hnc32:=NB346_339.out;have hcz33_0 : w30.cell? ⟨gb339,0,none⟩ = some (.int .i64 a1_0):=(kC BK339.out 0).trans rfl;have hcz33_1 : w30.cell? ⟨gb339,1,none⟩ = some (.int .i64 a1_1):=(kC BK339.out 1).trans rfl;have hcz33_2 : w30.cell? ⟨gb339,2,none⟩ = some (.int .i64 a1_2):=(kC BK339.out 2).trans rfl;have hcz33_3 : w30.cell? ⟨gb339,3,none⟩ = some (.int .i64 a1_3):=(kC BK339.out 3).trans rfl;have hfz33_0:=blk_frozen BK339.out 0;have hfz33_1:=blk_frozen BK339.out 1;have hfz33_2:=blk_frozen BK339.out 2;have hfz33_3:=blk_frozen BK339.out 3)|(go_at_call 41;(with_reducible refine (gazetteerlaw09_box.calls a1_0 a1_1 a1_2 a1_3 t348 _ A25.out).mono ?_);rintro e w34 ⟨rfl,hb⟩;have n0_:=Ak (kB (g:=gb338) (o:=.cells #[.int .i64 a0_0,.int .i64 a0_1,.int .i64 a0_2,.int .i64 a0_3] 35 (0,0)) (by (with_reducible repeat (first|refine kN ?_ _|refine kD ?_|refine kA ?_ _));exact BK338.out) hb);have n1_:=Ak (kB (g:=gb339) (o:=.cells #[.int .i64 a1_0,.int .i64 a1_1,.int .i64 a1_2,.int .i64 a1_3] 35 (0,0)) (by (with_reducible repeat (first|refine kN ?_ _|refine kD ?_|refine kA ?_ _));exact BK339.out) hb);have n2_:=Ak (kB (g:=gb340) (o:=.cells #[.int .i64 a2_0,.int .i64 a2_1,.int .i64 a2_2,.int .i64 a2_3] 35 (0,0)) (by (with_reducible repeat (first|refine kN ?_ _|refine kD ?_|refine kA ?_ _));exact BK340.out) hb);have n3_:=Ak (kB (g:=gb346) (o:=.cells #[.int .i64 t342,.int .i64 t343,.int .i64 t344,.int .i64 t345] 35 (0,0)) (by (with_reducible repeat (first|refine kN ?_ _|refine kD ?_|refine kA ?_ _));exact BK346.out) hb);have n4_:=Ak (below_step (by repeat (first|(with_reducible first|exact HB.out|apply bA|apply bN|apply bD|refine bS ?_ GE338.out|refine bS ?_ GE339.out|refine bS ?_ GE340.out|refine bS ?_ GE346.out)|exact HB.out)) hb);clear BK338;clear BK339;clear BK340;clear BK346;clear HB;have BK338:=n0_;have BK339:=n1_;have BK340:=n2_;have BK346:=n3_;have HB:=n4_;clear n0_ n1_ n2_ n3_ n4_;(try clear hb);(try clear hb2);(try clear hk);(try clear hi)))
    go_meet
    case rel => exact ⟨_,(!t348),(by first|rfl|(simp;done)|(simp [*];done)),H',⟨by first|omega|exact Nat.le_refl _⟩,⟨by (with_reducible repeat (first|refine kN ?_ _|refine kD ?_|refine kA ?_ _));exact BK338.out⟩,⟨by (with_reducible repeat (first|refine kN ?_ _|refine kD ?_|refine kA ?_ _));exact BK339.out⟩,⟨by (with_reducible repeat (first|refine kN ?_ _|refine kD ?_|refine kA ?_ _));exact BK340.out⟩,⟨by (with_reducible repeat (first|refine kN ?_ _|refine kD ?_|refine kA ?_ _));exact BK346.out⟩,⟨by repeat (first|(with_reducible first|exact HB.out|apply bA|apply bN|apply bD|refine bS ?_ GE338.out|refine bS ?_ GE339.out|refine bS ?_ GE340.out|refine bS ?_ GE346.out)|exact HB.out)⟩⟩
   ·replace c24:=Bool.eq_false_iff.mpr c24
    subst c24
    have H1 : (gazetteerlaw09_KeyUnion.j0 k true a0_0 a0_1 a0_2 a0_3 a1_0 a1_1 a1_2 a1_3 a2_0 a2_1 a2_2 a2_3 t342 t343 t344 t345) = some r:=by rw [if_neg (show ¬ (false = true) by decide)] at H;exact H
    clear H
    have H:=H1
    clear H1
    have H':=Ak H
    clear H
    have hnb35:=NB338_339.out
    have hnc35:=NB339_338.out
    have hnb36:=NB338_340.out
    have hnc36:=NB340_338.out
    have hnb37:=NB338_346.out
    have hnc37:=NB346_338.out
    have hcz38_0 : w18.cell? ⟨gb338,0,none⟩ = some (.int .i64 a0_0):=(kC BK338.out 0).trans rfl
    have hcz38_1 : w18.cell? ⟨gb338,1,none⟩ = some (.int .i64 a0_1):=(kC BK338.out 1).trans rfl
    have hcz38_2 : w18.cell? ⟨gb338,2,none⟩ = some (.int .i64 a0_2):=(kC BK338.out 2).trans rfl
    have hcz38_3 : w18.cell? ⟨gb338,3,none⟩ = some (.int .i64 a0_3):=(kC BK338.out 3).trans rfl
    have hfz38_0:=blk_frozen BK338.out 0
    have hfz38_1:=blk_frozen BK338.out 1
    have hfz38_2:=blk_frozen BK338.out 2
    have hfz38_3:=blk_frozen BK338.out 3
    go_wp2_with (first|((with_reducible refine gate_callee (f:=41) rfl ?_);refine goesL_ (some 16) rfl rfl Try.func41 (by kernel_rfl) rfl #[.agg #[.int .i64 a0_0,.int .i64 a0_1,.int .i64 a0_2,.int .i64 a0_3]] rfl (by (try simp only [List.map_toArray,List.map_cons,List.map_nil]);first|done|rfl|(simp only [List.length_drop,List.length_take];rfl)) ?_;(with_reducible refine (gazetteerlaw09_box.calls a0_0 a0_1 a0_2 a0_3 false _ A23.out).mono ?_);rintro e w39 ⟨rfl,hb⟩;refine ⟨_,rfl,?_⟩;have n0_:=Ak (kB (g:=gb338) (o:=.cells #[.int .i64 a0_0,.int .i64 a0_1,.int .i64 a0_2,.int .i64 a0_3] 35 (0,0)) (by (with_reducible repeat (first|refine kN ?_ _|refine kD ?_|refine kA ?_ _));refine blk_far ?_ NB338_346.out _;(with_reducible repeat (first|refine kN ?_ _|refine kD ?_|refine kA ?_ _));refine blk_far ?_ NB338_346.out _;(with_reducible repeat (first|refine kN ?_ _|refine kD ?_|refine kA ?_ _));refine blk_far ?_ NB338_346.out _;(with_reducible repeat (first|refine kN ?_ _|refine kD ?_|refine kA ?_ _));refine blk_far ?_ NB338_346.out _;(with_reducible repeat (first|refine kN ?_ _|refine kD ?_|refine kA ?_ _));exact BK338.out) hb);have n1_:=Ak (kB (g:=gb339) (o:=.cells #[.int .i64 a1_0,.int .i64 a1_1,.int .i64 a1_2,.int .i64 a1_3] 35 (0,0)) (by (with_reducible repeat (first|refine kN ?_ _|refine kD ?_|refine kA ?_ _));refine blk_far ?_ NB339_346.out _;(with_reducible repeat (first|refine kN ?_ _|refine kD ?_|refine kA ?_ _));refine blk_far ?_ NB339_346.out _;(with_reducible repeat (first|refine kN ?_ _|refine kD ?_|refine kA ?_ _));refine blk_far ?_ NB339_346.out _;(with_reducible repeat (first|refine kN ?_ _|refine kD ?_|refine kA ?_ _));refine blk_far ?_ NB339_346.out _;(with_reducible repeat (first|refine kN ?_ _|refine kD ?_|refine kA ?_ _));exact BK339.out) hb);have n2_:=Ak (kB (g:=gb340) (o:=.cells #[.int .i64 a2_0,.int .i64 a2_1,.int .i64 a2_2,.int .i64 a2_3] 35 (0,0)) (by (with_reducible repeat (first|refine kN ?_ _|refine kD ?_|refine kA ?_ _));refine blk_far ?_ NB340_346.out _;(with_reducible repeat (first|refine kN ?_ _|refine kD ?_|refine kA ?_ _));refine blk_far ?_ NB340_346.out _;(with_reducible repeat (first|refine kN ?_ _|refine kD ?_|refine kA ?_ _));refine blk_far ?_ NB340_346.out _;(with_reducible repeat (first|refine kN ?_ _|refine kD ?_|refine kA ?_ _));refine blk_far ?_ NB340_346.out _;(with_reducible repeat (first|refine kN ?_ _|refine kD ?_|refine kA ?_ _));exact BK340.out) hb);have n3_:=Ak (kB (g:=gb346) (o:=.cells #[.int .i64 t342,.int .i64 t343,.int .i64 t344,.int .i64 t345] 35 (0,0)) (by (with_reducible repeat (first|refine kN ?_ _|refine kD ?_|refine kA ?_ _));refine blk_put (cs:=#[.int .i64 t342,.int .i64 t343,.int .i64 t344,.int .i64 0]) ?_ 3 _ rfl;(with_reducible repeat (first|refine kN ?_ _|refine kD ?_|refine kA ?_ _));refine blk_put (cs:=#[.int .i64 t342,.int .i64 t343,.int .i64 0,.int .i64 0]) ?_ 2 _ rfl;(with_reducible repeat (first|refine kN ?_ _|refine kD ?_|refine kA ?_ _));refine blk_put (cs:=#[.int .i64 t342,.int .i64 0,.int .i64 0,.int .i64 0]) ?_ 1 _ rfl;(with_reducible repeat (first|refine kN ?_ _|refine kD ?_|refine kA ?_ _));refine blk_put (cs:=#[.int .i64 0,.int .i64 0,.int .i64 0,.int .i64 0]) ?_ 0 _ rfl;(with_reducible repeat (first|refine kN ?_ _|refine kD ?_|refine kA ?_ _));exact BK346.out) hb);have n4_:=Ak (below_step (by repeat (first|(with_reducible first|exact HB.out|apply bA|apply bN|apply bD|refine bS ?_ GE338.out|refine bS ?_ GE339.out|refine bS ?_ GE340.out|refine bS ?_ GE346.out)|exact HB.out)) hb);clear BK338;clear BK339;clear BK340;clear BK346;clear HB;have BK338:=n0_;have BK339:=n1_;have BK340:=n2_;have BK346:=n3_;have HB:=n4_;clear n0_ n1_ n2_ n3_ n4_;(try clear hb);(try clear hb2);(try clear hk);(try clear hi)))
    go_meet
    case rel => exact ⟨_,(true),(by first|rfl|(simp;done)|(simp [*];done)),H',⟨by first|omega|exact Nat.le_refl _⟩,⟨by (with_reducible repeat (first|refine kN ?_ _|refine kD ?_|refine kA ?_ _));exact BK338.out⟩,⟨by (with_reducible repeat (first|refine kN ?_ _|refine kD ?_|refine kA ?_ _));exact BK339.out⟩,⟨by (with_reducible repeat (first|refine kN ?_ _|refine kD ?_|refine kA ?_ _));exact BK340.out⟩,⟨by (with_reducible repeat (first|refine kN ?_ _|refine kD ?_|refine kA ?_ _));exact BK346.out⟩,⟨by repeat (first|(with_reducible first|exact HB.out|apply bA|apply bN|apply bD|refine bS ?_ GE338.out|refine bS ?_ GE339.out|refine bS ?_ GE340.out|refine bS ?_ GE346.out)|exact HB.out)⟩⟩
  case rest =>
   clear HC7
   try clear c1
   try clear c2
   try clear p2
   try clear c3
   try clear c4
   try clear c5
   try clear c12
   try clear c13
   try clear c15
   try clear c19
   try clear c20
   try clear c21
   try clear c24
   try clear c26
   try clear c27
   try clear c28
   try clear c31
   try clear c32
   try clear c35
   try clear c36
   try clear c37
   try clear hcz14_0
   try clear hcz14_1
   try clear hcz14_2
   try clear hcz14_3
   try clear hcz16_0
   try clear hcz16_1
   try clear hcz16_2
   try clear hcz16_3
   try clear hcz22_0
   try clear hcz22_1
   try clear hcz22_2
   try clear hcz22_3
   try clear hcz29_0
   try clear hcz29_1
   try clear hcz29_2
   try clear hcz29_3
   try clear hcz33_0
   try clear hcz33_1
   try clear hcz33_2
   try clear hcz33_3
   try clear hcz38_0
   try clear hcz38_1
   try clear hcz38_2
   try clear hcz38_3
   try clear hfz14_0
   try clear hfz14_1
   try clear hfz14_2
   try clear hfz14_3
   try clear hfz16_0
   try clear hfz16_1
   try clear hfz16_2
   try clear hfz16_3
   try clear hfz22_0
   try clear hfz22_1
   try clear hfz22_2
   try clear hfz22_3
   try clear hfz29_0
   try clear hfz29_1
   try clear hfz29_2
   try clear hfz29_3
   try clear hfz33_0
   try clear hfz33_1
   try clear hfz33_2
   try clear hfz33_3
   try clear hfz38_0
   try clear hfz38_1
   try clear hfz38_2
   try clear hfz38_3
   obtain ⟨kq,x22_6,rfl,HA,HJ6,BK338,BK339,BK340,BK346,HB⟩:=hcut
   cases kq with
   | zero => exact absurd HA.out (by simp [gazetteerlaw09_KeyUnion.j0])
   | succ kj6 =>
    have H:=HA.out
    clear HA
    simp only [gazetteerlaw09_KeyUnion.j0] at H
    by_cases c40 : x22_6 = true
    ·subst c40
     have H1 : (some (t342 == 0 && (t343 == 0 && (t344 == 0 && (t345 == 0))))) = some r:=by rw [if_pos rfl] at H;exact H
     clear H
     have H:=H1
     clear H1
     obtain rfl:=Option.some.inj H
     have hnb41:=NB346_338.out
     have hnc41:=NB338_346.out
     have hnb42:=NB346_339.out
     have hnc42:=NB339_346.out
     have hnb43:=NB346_340.out
     have hnc43:=NB340_346.out
     have hcz44_0 : wc.cell? ⟨gb346,0,none⟩ = some (.int .i64 t342):=(kC BK346.out 0).trans rfl
     have hcz44_1 : wc.cell? ⟨gb346,1,none⟩ = some (.int .i64 t343):=(kC BK346.out 1).trans rfl
     have hcz44_2 : wc.cell? ⟨gb346,2,none⟩ = some (.int .i64 t344):=(kC BK346.out 2).trans rfl
     have hcz44_3 : wc.cell? ⟨gb346,3,none⟩ = some (.int .i64 t345):=(kC BK346.out 3).trans rfl
     have hfz44_0:=blk_frozen BK346.out 0
     have hfz44_1:=blk_frozen BK346.out 1
     have hfz44_2:=blk_frozen BK346.out 2
     have hfz44_3:=blk_frozen BK346.out 3
     go_wp2
     go_ret
     exact ⟨by first|rfl|(simp [errW_none,errW_some] <;> rfl)|(simp [*,errW_none,errW_some] <;> rfl),by repeat (first|(with_reducible first|exact HB.out|apply bA|apply bN|apply bD|refine bS ?_ GE338.out|refine bS ?_ GE339.out|refine bS ?_ GE340.out|refine bS ?_ GE346.out)|exact HB.out)⟩
    ·replace c40:=Bool.eq_false_iff.mpr c40
     subst c40
     have H1 : ((key_Covers.f t342 t343 t344 t345 a0_0 a0_1 a0_2 a0_3).bind fun t349 => (if t349 = true then ((key_Covers.f t342 t343 t344 t345 a1_0 a1_1 a1_2 a1_3).bind fun t350 => (if t350 = true then ((key_Union.f a1_0 a1_1 a1_2 a1_3 a0_0 a0_1 a0_2 a0_3).bind fun bt351 => (if (!(t342 == bt351.1) || (!(t343 == bt351.2.1) || (!(t344 == bt351.2.2.1) || (!(t345 == bt351.2.2.2))))) = true then (gazetteerlaw09_KeyUnion.j1 kj6 true a0_0 a0_1 a0_2 a0_3 a1_0 a1_1 a1_2 a1_3 a2_0 a2_1 a2_2 a2_3 t342 t343 t344 t345) else ((key_Union.f a0_0 a0_1 a0_2 a0_3 a0_0 a0_1 a0_2 a0_3).bind fun bt355 => (gazetteerlaw09_KeyUnion.j1 kj6 (!(bt355.1 == a0_0) || (!(bt355.2.1 == a0_1) || (!(bt355.2.2.1 == a0_2) || (!(bt355.2.2.2 == a0_3))))) a0_0 a0_1 a0_2 a0_3 a1_0 a1_1 a1_2 a1_3 a2_0 a2_1 a2_2 a2_3 t342 t343 t344 t345)))) else (gazetteerlaw09_KeyUnion.j1 kj6 true a0_0 a0_1 a0_2 a0_3 a1_0 a1_1 a1_2 a1_3 a2_0 a2_1 a2_2 a2_3 t342 t343 t344 t345))) else (gazetteerlaw09_KeyUnion.j1 kj6 true a0_0 a0_1 a0_2 a0_3 a1_0 a1_1 a1_2 a1_3 a2_0 a2_1 a2_2 a2_3 t342 t343 t344 t345))) = some r:=by rw [if_neg (show ¬ (false = true) by decide)] at H;exact H
     clear H
     have H:=H1
     clear H1
     have HC45:=Ak H
     clear H
     go_upto_region 6 with (fail)
     go_cut [49] (fun v49 wc => ∃ (kq : Nat) (x49_44 : Bool),v49 = .bool x49_44∧Aside0 (gazetteerlaw09_KeyUnion.j1 kq x49_44 a0_0 a0_1 a0_2 a0_3 a1_0 a1_1 a1_2 a1_3 a2_0 a2_1 a2_2 a2_3 t342 t343 t344 t345 = some r)∧Aside0 (kq ≤ kj6)∧Aside0 (wc.heap[gb338]? = some (.cells #[.int .i64 a0_0,.int .i64 a0_1,.int .i64 a0_2,.int .i64 a0_3] 35 (0,0)))∧Aside0 (wc.heap[gb339]? = some (.cells #[.int .i64 a1_0,.int .i64 a1_1,.int .i64 a1_2,.int .i64 a1_3] 35 (0,0)))∧Aside0 (wc.heap[gb340]? = some (.cells #[.int .i64 a2_0,.int .i64 a2_1,.int .i64 a2_2,.int .i64 a2_3] 35 (0,0)))∧Aside0 (wc.heap[gb346]? = some (.cells #[.int .i64 t342,.int .i64 t343,.int .i64 t344,.int .i64 t345] 35 (0,0)))∧Aside0 (Below w.heap.size w wc))
     case first =>
      have H:=HC45.out
      clear HC45
      replace H:=Option.bind_eq_some_iff.mp H
      obtain ⟨t349,A460,H⟩:=H
      replace H : (if t349 = true then ((key_Covers.f t342 t343 t344 t345 a1_0 a1_1 a1_2 a1_3).bind fun t350 => (if t350 = true then ((key_Union.f a1_0 a1_1 a1_2 a1_3 a0_0 a0_1 a0_2 a0_3).bind fun bt351 => (if (!(t342 == bt351.1) || (!(t343 == bt351.2.1) || (!(t344 == bt351.2.2.1) || (!(t345 == bt351.2.2.2))))) = true then (gazetteerlaw09_KeyUnion.j1 kj6 true a0_0 a0_1 a0_2 a0_3 a1_0 a1_1 a1_2 a1_3 a2_0 a2_1 a2_2 a2_3 t342 t343 t344 t345) else ((key_Union.f a0_0 a0_1 a0_2 a0_3 a0_0 a0_1 a0_2 a0_3).bind fun bt355 => (gazetteerlaw09_KeyUnion.j1 kj6 (!(bt355.1 == a0_0) || (!(bt355.2.1 == a0_1) || (!(bt355.2.2.1 == a0_2) || (!(bt355.2.2.2 == a0_3))))) a0_0 a0_1 a0_2 a0_3 a1_0 a1_1 a1_2 a1_3 a2_0 a2_1 a2_2 a2_3 t342 t343 t344 t345)))) else (gazetteerlaw09_KeyUnion.j1 kj6 true a0_0 a0_1 a0_2 a0_3 a1_0 a1_1 a1_2 a1_3 a2_0 a2_1 a2_2 a2_3 t342 t343 t344 t345))) else (gazetteerlaw09_KeyUnion.j1 kj6 true a0_0 a0_1 a0_2 a0_3 a1_0 a1_1 a1_2 a1_3 a2_0 a2_1 a2_2 a2_3 t342 t343 t344 t345)) = some r:=H
      have A46:=Ak A460
      clear A460
      by_cases c47 : t349 = true
      ·subst c47
       have H1 : ((key_Covers.f t342 t343 t344 t345 a1_0 a1_1 a1_2 a1_3).bind fun t350 => (if t350 = true then ((key_Union.f a1_0 a1_1 a1_2 a1_3 a0_0 a0_1 a0_2 a0_3).bind fun bt351 => (if (!(t342 == bt351.1) || (!(t343 == bt351.2.1) || (!(t344 == bt351.2.2.1) || (!(t345 == bt351.2.2.2))))) = true then (gazetteerlaw09_KeyUnion.j1 kj6 true a0_0 a0_1 a0_2 a0_3 a1_0 a1_1 a1_2 a1_3 a2_0 a2_1 a2_2 a2_3 t342 t343 t344 t345) else ((key_Union.f a0_0 a0_1 a0_2 a0_3 a0_0 a0_1 a0_2 a0_3).bind fun bt355 => (gazetteerlaw09_KeyUnion.j1 kj6 (!(bt355.1 == a0_0) || (!(bt355.2.1 == a0_1) || (!(bt355.2.2.1 == a0_2) || (!(bt355.2.2.2 == a0_3))))) a0_0 a0_1 a0_2 a0_3 a1_0 a1_1 a1_2 a1_3 a2_0 a2_1 a2_2 a2_3 t342 t343 t344 t345)))) else (gazetteerlaw09_KeyUnion.j1 kj6 true a0_0 a0_1 a0_2 a0_3 a1_0 a1_1 a1_2 a1_3 a2_0 a2_1 a2_2 a2_3 t342 t343 t344 t345))) = some r:=by rw [if_pos rfl] at H;exact H
       clear H
       have H:=H1
       clear H1
       replace H:=Option.bind_eq_some_iff.mp H
       obtain ⟨t350,A480,H⟩:=H
       replace H : (if t350 = true then ((key_Union.f a1_0 a1_1 a1_2 a1_3 a0_0 a0_1 a0_2 a0_3).bind fun bt351 => (if (!(t342 == bt351.1) || (!(t343 == bt351.2.1) || (!(t344 == bt351.2.2.1) || (!(t345 == bt351.2.2.2))))) = true then (gazetteerlaw09_KeyUnion.j1 kj6 true a0_0 a0_1 a0_2 a0_3 a1_0 a1_1 a1_2 a1_3 a2_0 a2_1 a2_2 a2_3 t342 t343 t344 t345) else ((key_Union.f a0_0 a0_1 a0_2 a0_3 a0_0 a0_1 a0_2 a0_3).bind fun bt355 => (gazetteerlaw09_KeyUnion.j1 kj6 (!(bt355.1 == a0_0) || (!(bt355.2.1 == a0_1) || (!(bt355.2.2.1 == a0_2) || (!(bt355.2.2.2 == a0_3))))) a0_0 a0_1 a0_2 a0_3 a1_0 a1_1 a1_2 a1_3 a2_0 a2_1 a2_2 a2_3 t342 t343 t344 t345)))) else (gazetteerlaw09_KeyUnion.j1 kj6 true a0_0 a0_1 a0_2 a0_3 a1_0 a1_1 a1_2 a1_3 a2_0 a2_1 a2_2 a2_3 t342 t343 t344 t345)) = some r:=H
       have A48:=Ak A480
       clear A480
       by_cases c49 : t350 = true
       ·subst c49
        have H1 : ((key_Union.f a1_0 a1_1 a1_2 a1_3 a0_0 a0_1 a0_2 a0_3).bind fun bt351 => (if (!(t342 == bt351.1) || (!(t343 == bt351.2.1) || (!(t344 == bt351.2.2.1) || (!(t345 == bt351.2.2.2))))) = true then (gazetteerlaw09_KeyUnion.j1 kj6 true a0_0 a0_1 a0_2 a0_3 a1_0 a1_1 a1_2 a1_3 a2_0 a2_1 a2_2 a2_3 t342 t343 t344 t345) else ((key_Union.f a0_0 a0_1 a0_2 a0_3 a0_0 a0_1 a0_2 a0_3).bind fun bt355 => (gazetteerlaw09_KeyUnion.j1 kj6 (!(bt355.1 == a0_0) || (!(bt355.2.1 == a0_1) || (!(bt355.2.2.1 == a0_2) || (!(bt355.2.2.2 == a0_3))))) a0_0 a0_1 a0_2 a0_3 a1_0 a1_1 a1_2 a1_3 a2_0 a2_1 a2_2 a2_3 t342 t343 t344 t345)))) = some r:=by rw [if_pos rfl] at H;exact H
        clear H
        have H:=H1
        clear H1
        replace H:=Option.bind_eq_some_iff.mp H
        obtain ⟨⟨t351,t352,t353,t354⟩,A500,H⟩:=H
        replace H : (if (!(t342 == t351) || (!(t343 == t352) || (!(t344 == t353) || (!(t345 == t354))))) = true then (gazetteerlaw09_KeyUnion.j1 kj6 true a0_0 a0_1 a0_2 a0_3 a1_0 a1_1 a1_2 a1_3 a2_0 a2_1 a2_2 a2_3 t342 t343 t344 t345) else ((key_Union.f a0_0 a0_1 a0_2 a0_3 a0_0 a0_1 a0_2 a0_3).bind fun bt355 => (gazetteerlaw09_KeyUnion.j1 kj6 (!(bt355.1 == a0_0) || (!(bt355.2.1 == a0_1) || (!(bt355.2.2.1 == a0_2) || (!(bt355.2.2.2 == a0_3))))) a0_0 a0_1 a0_2 a0_3 a1_0 a1_1 a1_2 a1_3 a2_0 a2_1 a2_2 a2_3 t342 t343 t344 t345))) = some r:=H
        have A50:=Ak A500
        clear A500
        by_cases c51 : (!(t342 == t351) || (!(t343 == t352) || (!(t344 == t353) || (!(t345 == t354))))) = true
        ·rw [if_pos c51] at H
         have c51b0 : (!(t342 == t351) || (!(t343 == t352) || (!(t344 == t353) || (!(t345 == t354))))) = true:=c51
         clear c51
         (first|rw [c51b0]|(simp only [i64_w,i32_w];rw [c51b0])|skip)
         have H':=Ak H
         clear H
         try go_wp2
         have n0_:=Ak (kD BK338.out)
         have n1_:=Ak (kD BK339.out)
         have n2_:=Ak (kD BK340.out)
         have n3_:=Ak (kD BK346.out)
         have n4_:=Ak (bD HB.out)
         clear BK338 BK339 BK340 BK346 HB
         have BK338:=n0_;have BK339:=n1_;have BK340:=n2_;have BK346:=n3_;have HB:=n4_
         clear n0_ n1_ n2_ n3_ n4_
         refine start_ (n:=24) (S:=fun w' => w'.cell? ⟨gb346,0,none⟩ = some (.int .i64 t342)∧w'.cell? ⟨gb346,1,none⟩ = some (.int .i64 t343)∧w'.cell? ⟨gb346,2,none⟩ = some (.int .i64 t344)∧w'.cell? ⟨gb346,3,none⟩ = some (.int .i64 t345)∧w'.cell? ⟨gb338,0,none⟩ = some (.int .i64 a0_0)∧w'.cell? ⟨gb338,1,none⟩ = some (.int .i64 a0_1)∧w'.cell? ⟨gb338,2,none⟩ = some (.int .i64 a0_2)∧w'.cell? ⟨gb338,3,none⟩ = some (.int .i64 a0_3)∧w'.cell? ⟨gb339,0,none⟩ = some (.int .i64 a1_0)∧w'.cell? ⟨gb339,1,none⟩ = some (.int .i64 a1_1)∧w'.cell? ⟨gb339,2,none⟩ = some (.int .i64 a1_2)∧w'.cell? ⟨gb339,3,none⟩ = some (.int .i64 a1_3)) (ds:=[]) #[ff,ff,ff,ff,ff,ff,ff,ff,ff,ff,ff,ff,ff,ff,ff,ff,ff,ff,ff,ff,ff,ff,ff,ff] (by kernel_rfl) rfl rfl ⟨(kC BK346.out 0).trans rfl,(kC BK346.out 1).trans rfl,(kC BK346.out 2).trans rfl,(kC BK346.out 3).trans rfl,(kC BK338.out 0).trans rfl,(kC BK338.out 1).trans rfl,(kC BK338.out 2).trans rfl,(kC BK338.out 3).trans rfl,(kC BK339.out 0).trans rfl,(kC BK339.out 1).trans rfl,(kC BK339.out 2).trans rfl,(kC BK339.out 3).trans rfl⟩ (fun hHeld => ?_);refine with_tabW gazetteerlaw09_KeyUnion.tab6 gazetteerlaw09_KeyUnion.bits6 (fun HT_ HW_ => ?_)
         generalize wc.drew = w52 at BK338 BK339 BK340 BK346 HB hHeld ⊢
         refine take_ (i:=0) (N:=some 26) (v:=?_) (a':=?_) #[tt,ff,ff,ff,ff,ff,ff,ff,ff,ff,ff,ff,ff,ff,ff,ff,ff,ff,ff,ff,ff,ff,ff,ff] rfl rfl (take_ofW HT_.out HW_.out (by kernel_rfl)) (fun _ _ _ h => h) (Or.inl ⟨by rfl,?_⟩) hHeld ?_ ?_
         rotate_left
         ·rintro w' ⟨s0,s1,s2,s3,s4,s5,s6,s7,s8,s9,s10,s11⟩
          go_simp
          with_reducible rfl
         rotate_left
         ·simp only [Act.put,sA,sZ,sS,i64_w,i32_w]
          rfl
         refine take_ (i:=1) (N:=some 27) (v:=?_) (a':=?_) #[tt,tt,ff,ff,ff,ff,ff,ff,ff,ff,ff,ff,ff,ff,ff,ff,ff,ff,ff,ff,ff,ff,ff,ff] rfl rfl (take_ofW HT_.out HW_.out (by kernel_rfl)) (fun _ _ _ h => h) (Or.inl ⟨by rfl,?_⟩) hHeld ?_ ?_
         rotate_left
         ·rintro w' ⟨s0,s1,s2,s3,s4,s5,s6,s7,s8,s9,s10,s11⟩
          go_simp
          with_reducible rfl
         rotate_left
         ·simp only [Act.put,sA,sZ,sS,i64_w,i32_w]
          rfl
         refine one_ (i:=2) (N:=some 28) #[tt,tt,tt,ff,ff,ff,ff,ff,ff,ff,ff,ff,ff,ff,ff,ff,ff,ff,ff,ff,ff,ff,ff,ff] rfl rfl (one_of HT_.out (by kernel_rfl)) (by decide) (fun K hK => ?_)
         refine goes_ Try.func35 (by kernel_rfl) rfl #[.agg #[.int .i64 t342,.int .i64 t343,.int .i64 t344,.int .i64 t345],.agg #[.int .i64 a0_0,.int .i64 a0_1,.int .i64 a0_2,.int .i64 a0_3]] (by rfl) rfl rfl (by (try simp only [List.map_toArray,List.map_cons,List.map_nil]);first|done|rfl|(simp only [List.length_drop,List.length_take];rfl)) ?_
         with_reducible refine (key_Covers.calls t342 t343 t344 t345 a0_0 a0_1 a0_2 a0_3 true _ A46.out).mono ?_
         rintro e w53 ⟨rfl,hb⟩
         refine ⟨_,rfl,?_⟩
         have n0_:=Kb BK338 hb
         have n1_:=Kb BK339 hb
         have n2_:=Kb BK340 hb
         have n3_:=Kb BK346 hb
         have n4_:=Kh HB hb
         clear BK338 BK339 BK340 BK346 HB
         have BK338:=n0_;have BK339:=n1_;have BK340:=n2_;have BK346:=n3_;have HB:=n4_
         clear n0_ n1_ n2_ n3_ n4_
         (try clear hb)
         (try clear hb2)
         (try clear hk)
         (try clear hi)
         refine hK.out _ _ ⟨(kC BK346.out 0).trans rfl,(kC BK346.out 1).trans rfl,(kC BK346.out 2).trans rfl,(kC BK346.out 3).trans rfl,(kC BK338.out 0).trans rfl,(kC BK338.out 1).trans rfl,(kC BK338.out 2).trans rfl,(kC BK338.out 3).trans rfl,(kC BK339.out 0).trans rfl,(kC BK339.out 1).trans rfl,(kC BK339.out 2).trans rfl,(kC BK339.out 3).trans rfl⟩ (fun hHeld => ?_)
         clear hK K
         refine norm_ (a':=?_) ?_ ?_
         rotate_left
         ·show Act.put _ (some 28) _ = _
          simp only [Act.put,sA,sZ,sS,i64_w,i32_w]
          rfl
         refine pure_ (i:=3) (N:=some 29) (v:=?_) (a':=?_) #[tt,tt,tt,tt,ff,ff,ff,ff,ff,ff,ff,ff,ff,ff,ff,ff,ff,ff,ff,ff,ff,ff,ff,ff] rfl rfl (any_of HT_.out (by kernel_rfl)) (fun _ _ _ h => h) (Or.inl ⟨by rfl,?_⟩) ?_ ?_
         rotate_left
         ·intro w'
          go_simp
          with_reducible rfl
         rotate_left
         ·simp only [Act.put,sA,sZ,sS,i64_w,i32_w]
          rfl
         refine pure_ (i:=4) (N:=some 30) (v:=?_) (a':=?_) #[tt,tt,tt,tt,tt,ff,ff,ff,ff,ff,ff,ff,ff,ff,ff,ff,ff,ff,ff,ff,ff,ff,ff,ff] rfl rfl (any_of HT_.out (by kernel_rfl)) (fun _ _ _ h => h) (Or.inl ⟨by rfl,?_⟩) ?_ ?_
         rotate_left
         ·intro w'
          go_simp
          with_reducible rfl
         rotate_left
         ·simp only [Act.put,sA,sZ,sS,i64_w,i32_w]
          rfl
         refine take_ (i:=5) (N:=some 31) (v:=?_) (a':=?_) #[tt,tt,tt,tt,tt,tt,ff,ff,ff,ff,ff,ff,ff,ff,ff,ff,ff,ff,ff,ff,ff,ff,ff,ff] rfl rfl (take_ofW HT_.out HW_.out (by kernel_rfl)) (fun _ _ _ h => h) (Or.inl ⟨by rfl,?_⟩) hHeld ?_ ?_
         rotate_left
         ·rintro w' ⟨s0,s1,s2,s3,s4,s5,s6,s7,s8,s9,s10,s11⟩
          go_simp
          with_reducible rfl
         rotate_left
         ·simp only [Act.put,sA,sZ,sS,i64_w,i32_w]
          rfl
         refine take_ (i:=6) (N:=some 32) (v:=?_) (a':=?_) #[tt,tt,tt,tt,tt,tt,tt,ff,ff,ff,ff,ff,ff,ff,ff,ff,ff,ff,ff,ff,ff,ff,ff,ff] rfl rfl (take_ofW HT_.out HW_.out (by kernel_rfl)) (fun _ _ _ h => h) (Or.inl ⟨by rfl,?_⟩) hHeld ?_ ?_
         rotate_left
         ·rintro w' ⟨s0,s1,s2,s3,s4,s5,s6,s7,s8,s9,s10,s11⟩
          go_simp
          with_reducible rfl
         rotate_left
         ·simp only [Act.put,sA,sZ,sS,i64_w,i32_w]
          rfl
         refine one_ (i:=7) (N:=some 33) #[tt,tt,tt,tt,tt,tt,tt,tt,ff,ff,ff,ff,ff,ff,ff,ff,ff,ff,ff,ff,ff,ff,ff,ff] rfl rfl (one_of HT_.out (by kernel_rfl)) (by decide) (fun K hK => ?_)
         refine goes_ Try.func35 (by kernel_rfl) rfl #[.agg #[.int .i64 t342,.int .i64 t343,.int .i64 t344,.int .i64 t345],.agg #[.int .i64 a1_0,.int .i64 a1_1,.int .i64 a1_2,.int .i64 a1_3]] (by rfl) rfl rfl (by (try simp only [List.map_toArray,List.map_cons,List.map_nil]);first|done|rfl|(simp only [List.length_drop,List.length_take];rfl)) ?_
         with_reducible refine (key_Covers.calls t342 t343 t344 t345 a1_0 a1_1 a1_2 a1_3 true _ A48.out).mono ?_
         rintro e w54 ⟨rfl,hb⟩
         refine ⟨_,rfl,?_⟩
         have n0_:=Kb BK338 hb
         have n1_:=Kb BK339 hb
         have n2_:=Kb BK340 hb
         have n3_:=Kb BK346 hb
         have n4_:=Kh HB hb
         clear BK338 BK339 BK340 BK346 HB
         have BK338:=n0_;have BK339:=n1_;have BK340:=n2_;have BK346:=n3_;have HB:=n4_
         clear n0_ n1_ n2_ n3_ n4_
         (try clear hb)
         (try clear hb2)
         (try clear hk)
         (try clear hi)
         refine hK.out _ _ ⟨(kC BK346.out 0).trans rfl,(kC BK346.out 1).trans rfl,(kC BK346.out 2).trans rfl,(kC BK346.out 3).trans rfl,(kC BK338.out 0).trans rfl,(kC BK338.out 1).trans rfl,(kC BK338.out 2).trans rfl,(kC BK338.out 3).trans rfl,(kC BK339.out 0).trans rfl,(kC BK339.out 1).trans rfl,(kC BK339.out 2).trans rfl,(kC BK339.out 3).trans rfl⟩ (fun hHeld => ?_)
         clear hK K
         refine norm_ (a':=?_) ?_ ?_
         rotate_left
         ·show Act.put _ (some 33) _ = _
          simp only [Act.put,sA,sZ,sS,i64_w,i32_w]
          rfl
         refine pure_ (i:=8) (N:=some 34) (v:=?_) (a':=?_) #[tt,tt,tt,tt,tt,tt,tt,tt,tt,ff,ff,ff,ff,ff,ff,ff,ff,ff,ff,ff,ff,ff,ff,ff] rfl rfl (any_of HT_.out (by kernel_rfl)) (fun _ _ _ h => h) (Or.inl ⟨by rfl,?_⟩) ?_ ?_
         rotate_left
         ·intro w'
          go_simp
          with_reducible rfl
         rotate_left
         ·simp only [Act.put,sA,sZ,sS,i64_w,i32_w]
          rfl
         refine pure_ (i:=9) (N:=some 35) (v:=?_) (a':=?_) #[tt,tt,tt,tt,tt,tt,tt,tt,tt,tt,ff,ff,ff,ff,ff,ff,ff,ff,ff,ff,ff,ff,ff,ff] rfl rfl (any_of HT_.out (by kernel_rfl)) (fun _ _ _ h => h) (Or.inl ⟨by rfl,?_⟩) ?_ ?_
         rotate_left
         ·intro w'
          go_simp
          with_reducible rfl
         rotate_left
         ·simp only [Act.put,sA,sZ,sS,i64_w,i32_w]
          rfl
         refine pure_ (i:=10) (N:=some 36) (v:=?_) (a':=?_) #[tt,tt,tt,tt,tt,tt,tt,tt,tt,tt,tt,ff,ff,ff,ff,ff,ff,ff,ff,ff,ff,ff,ff,ff] rfl rfl (any_of HT_.out (by kernel_rfl)) (fun _ _ _ h => h) (Or.inl ⟨by rfl,?_⟩) ?_ ?_
         rotate_left
         ·intro w'
          go_simp
          with_reducible rfl
         rotate_left
         ·simp only [Act.put,sA,sZ,sS,i64_w,i32_w]
          rfl
         refine take_ (i:=11) (N:=some 37) (v:=?_) (a':=?_) #[tt,tt,tt,tt,tt,tt,tt,tt,tt,tt,tt,tt,ff,ff,ff,ff,ff,ff,ff,ff,ff,ff,ff,ff] rfl rfl (take_ofW HT_.out HW_.out (by kernel_rfl)) (fun _ _ _ h => h) (Or.inl ⟨by rfl,?_⟩) hHeld ?_ ?_
         rotate_left
         ·rintro w' ⟨s0,s1,s2,s3,s4,s5,s6,s7,s8,s9,s10,s11⟩
          go_simp
          with_reducible rfl
         rotate_left
         ·simp only [Act.put,sA,sZ,sS,i64_w,i32_w]
          rfl
         refine take_ (i:=12) (N:=some 38) (v:=?_) (a':=?_) #[tt,tt,tt,tt,tt,tt,tt,tt,tt,tt,tt,tt,tt,ff,ff,ff,ff,ff,ff,ff,ff,ff,ff,ff] rfl rfl (take_ofW HT_.out HW_.out (by kernel_rfl)) (fun _ _ _ h => h) (Or.inl ⟨by rfl,?_⟩) hHeld ?_ ?_
         rotate_left
         ·rintro w' ⟨s0,s1,s2,s3,s4,s5,s6,s7,s8,s9,s10,s11⟩
          go_simp
          with_reducible rfl
         rotate_left
         ·simp only [Act.put,sA,sZ,sS,i64_w,i32_w]
          rfl
         refine take_ (i:=13) (N:=some 39) (v:=?_) (a':=?_) #[tt,tt,tt,tt,tt,tt,tt,tt,tt,tt,tt,tt,tt,tt,ff,ff,ff,ff,ff,ff,ff,ff,ff,ff] rfl rfl (take_ofW HT_.out HW_.out (by kernel_rfl)) (fun _ _ _ h => h) (Or.inl ⟨by rfl,?_⟩) hHeld ?_ ?_
         rotate_left
         ·rintro w' ⟨s0,s1,s2,s3,s4,s5,s6,s7,s8,s9,s10,s11⟩
          go_simp
          with_reducible rfl
         rotate_left
         ·simp only [Act.put,sA,sZ,sS,i64_w,i32_w]
          rfl
         refine one_ (i:=14) (N:=some 40) #[tt,tt,tt,tt,tt,tt,tt,tt,tt,tt,tt,tt,tt,tt,tt,ff,ff,ff,ff,ff,ff,ff,ff,ff] rfl rfl (one_of HT_.out (by kernel_rfl)) (by decide) (fun K hK => ?_)
         refine goes_ Try.func40 (by kernel_rfl) rfl #[.agg #[.int .i64 a1_0,.int .i64 a1_1,.int .i64 a1_2,.int .i64 a1_3],.agg #[.int .i64 a0_0,.int .i64 a0_1,.int .i64 a0_2,.int .i64 a0_3]] (by rfl) rfl rfl (by (try simp only [List.map_toArray,List.map_cons,List.map_nil]);first|done|rfl|(simp only [List.length_drop,List.length_take];rfl)) ?_
         with_reducible refine (key_Union.calls a1_0 a1_1 a1_2 a1_3 a0_0 a0_1 a0_2 a0_3 t351 t352 t353 t354 _ A50.out).mono ?_
         rintro e w55 ⟨rfl,hb⟩
         refine ⟨_,rfl,?_⟩
         have n0_:=Kb BK338 hb
         have n1_:=Kb BK339 hb
         have n2_:=Kb BK340 hb
         have n3_:=Kb BK346 hb
         have n4_:=Kh HB hb
         clear BK338 BK339 BK340 BK346 HB
         have BK338:=n0_;have BK339:=n1_;have BK340:=n2_;have BK346:=n3_;have HB:=n4_
         clear n0_ n1_ n2_ n3_ n4_
         (try clear hb)
         (try clear hb2)
         (try clear hk)
         (try clear hi)
         refine hK.out _ _ ⟨(kC BK346.out 0).trans rfl,(kC BK346.out 1).trans rfl,(kC BK346.out 2).trans rfl,(kC BK346.out 3).trans rfl,(kC BK338.out 0).trans rfl,(kC BK338.out 1).trans rfl,(kC BK338.out 2).trans rfl,(kC BK338.out 3).trans rfl,(kC BK339.out 0).trans rfl,(kC BK339.out 1).trans rfl,(kC BK339.out 2).trans rfl,(kC BK339.out 3).trans rfl⟩ (fun hHeld => ?_)
         clear hK K
         refine norm_ (a':=?_) ?_ ?_
         rotate_left
         ·show Act.put _ (some 40) _ = _
          simp only [Act.put,sA,sZ,sS,i64_w,i32_w]
          rfl
         refine pure_ (i:=15) (N:=some 41) (v:=?_) (a':=?_) #[tt,tt,tt,tt,tt,tt,tt,tt,tt,tt,tt,tt,tt,tt,tt,tt,ff,ff,ff,ff,ff,ff,ff,ff] rfl rfl (any_of HT_.out (by kernel_rfl)) (fun _ _ _ h => h) (Or.inl ⟨by rfl,?_⟩) ?_ ?_
         rotate_left
         ·intro w'
          go_simp
          with_reducible rfl
         rotate_left
         ·simp only [Act.put,sA,sZ,sS,i64_w,i32_w]
          rfl
         refine pure_ (i:=16) (N:=some 42) (v:=?_) (a':=?_) #[tt,tt,tt,tt,tt,tt,tt,tt,tt,tt,tt,tt,tt,tt,tt,tt,tt,ff,ff,ff,ff,ff,ff,ff] rfl rfl (any_of HT_.out (by kernel_rfl)) (fun _ _ _ h => h) (Or.inl ⟨by rfl,?_⟩) ?_ ?_
         rotate_left
         ·intro w'
          go_simp
          with_reducible rfl
         rotate_left
         ·simp only [Act.put,sA,sZ,sS,i64_w,i32_w]
          rfl
         refine pure_ (i:=17) (N:=some 43) (v:=?_) (a':=?_) #[tt,tt,tt,tt,tt,tt,tt,tt,tt,tt,tt,tt,tt,tt,tt,tt,tt,tt,ff,ff,ff,ff,ff,ff] rfl rfl (any_of HT_.out (by kernel_rfl)) (fun _ _ _ h => h) (Or.inl ⟨by rfl,?_⟩) ?_ ?_
         rotate_left
         ·intro w'
          go_simp
          with_reducible rfl
         rotate_left
         ·simp only [Act.put,sA,sZ,sS,i64_w,i32_w]
          rfl
         refine pure_ (i:=18) (N:=some 44) (v:=undef) (a':=?_) #[tt,tt,tt,tt,tt,tt,tt,tt,tt,tt,tt,tt,tt,tt,tt,tt,tt,tt,tt,ff,ff,ff,ff,ff] rfl rfl (any_of HT_.out (by kernel_rfl)) (fun _ _ _ h => h) (Or.inr ⟨by rfl,rfl⟩) ?_ ?_
         rotate_left
         ·simp only [Act.put,sA,sZ,sS,i64_w,i32_w]
          rfl
         refine pure_ (i:=19) (N:=some 45) (v:=undef) (a':=?_) #[tt,tt,tt,tt,tt,tt,tt,tt,tt,tt,tt,tt,tt,tt,tt,tt,tt,tt,tt,tt,ff,ff,ff,ff] rfl rfl (any_of HT_.out (by kernel_rfl)) (fun _ _ _ h => h) (Or.inr ⟨by rfl,rfl⟩) ?_ ?_
         rotate_left
         ·simp only [Act.put,sA,sZ,sS,i64_w,i32_w]
          rfl
         refine pure_ (i:=20) (N:=some 46) (v:=undef) (a':=?_) #[tt,tt,tt,tt,tt,tt,tt,tt,tt,tt,tt,tt,tt,tt,tt,tt,tt,tt,tt,tt,tt,ff,ff,ff] rfl rfl (any_of HT_.out (by kernel_rfl)) (fun _ _ _ h => h) (Or.inr ⟨by rfl,rfl⟩) ?_ ?_
         rotate_left
         ·simp only [Act.put,sA,sZ,sS,i64_w,i32_w]
          rfl
         refine pure_ (i:=21) (N:=some 47) (v:=undef) (a':=?_) #[tt,tt,tt,tt,tt,tt,tt,tt,tt,tt,tt,tt,tt,tt,tt,tt,tt,tt,tt,tt,tt,tt,ff,ff] rfl rfl (any_of HT_.out (by kernel_rfl)) (fun _ _ _ h => h) (Or.inr ⟨by rfl,rfl⟩) ?_ ?_
         rotate_left
         ·simp only [Act.put,sA,sZ,sS,i64_w,i32_w]
          rfl
         refine pure_ (i:=22) (N:=some 48) (v:=undef) (a':=?_) #[tt,tt,tt,tt,tt,tt,tt,tt,tt,tt,tt,tt,tt,tt,tt,tt,tt,tt,tt,tt,tt,tt,tt,ff] rfl rfl (any_of HT_.out (by kernel_rfl)) (fun _ _ _ h => h) (Or.inr ⟨by rfl,rfl⟩) ?_ ?_
         rotate_left
         ·simp only [Act.put,sA,sZ,sS,i64_w,i32_w]
          rfl
         refine pure_ (i:=23) (N:=some 49) (v:=?_) (a':=?_) #[tt,tt,tt,tt,tt,tt,tt,tt,tt,tt,tt,tt,tt,tt,tt,tt,tt,tt,tt,tt,tt,tt,tt,tt] rfl rfl (any_of HT_.out (by kernel_rfl)) (fun _ _ _ h => h) (Or.inl ⟨by rfl,?_⟩) ?_ ?_
         rotate_left
         ·intro w'
          go_simp
          with_reducible rfl
         rotate_left
         ·simp only [Act.put,sA,sZ,sS,i64_w,i32_w]
          rfl
         refine done_ (done_of HT_.out (by kernel_rfl)) ?_
         try go_wp2
         go_meet
         case rel => exact ⟨_,(true),(by first|rfl|(simp;done)|(simp [*];done)),H',⟨by have:=HJ6.out;first|omega|exact Nat.le_refl _⟩,⟨by (with_reducible repeat (first|refine kN ?_ _|refine kD ?_|refine kA ?_ _));exact BK338.out⟩,⟨by (with_reducible repeat (first|refine kN ?_ _|refine kD ?_|refine kA ?_ _));exact BK339.out⟩,⟨by (with_reducible repeat (first|refine kN ?_ _|refine kD ?_|refine kA ?_ _));exact BK340.out⟩,⟨by (with_reducible repeat (first|refine kN ?_ _|refine kD ?_|refine kA ?_ _));exact BK346.out⟩,⟨by repeat (first|(with_reducible first|exact HB.out|apply bA|apply bN|apply bD|refine bS ?_ GE338.out|refine bS ?_ GE339.out|refine bS ?_ GE340.out|refine bS ?_ GE346.out)|exact HB.out)⟩⟩
        ·rw [if_neg c51] at H
         have c51b0 : (!(t342 == t351) || (!(t343 == t352) || (!(t344 == t353) || (!(t345 == t354))))) = false:=by simpa using c51
         clear c51
         (first|rw [c51b0]|(simp only [i64_w,i32_w];rw [c51b0])|skip)
         replace H:=Option.bind_eq_some_iff.mp H
         obtain ⟨⟨t355,t356,t357,t358⟩,A560,H⟩:=H
         replace H : (gazetteerlaw09_KeyUnion.j1 kj6 (!(t355 == a0_0) || (!(t356 == a0_1) || (!(t357 == a0_2) || (!(t358 == a0_3))))) a0_0 a0_1 a0_2 a0_3 a1_0 a1_1 a1_2 a1_3 a2_0 a2_1 a2_2 a2_3 t342 t343 t344 t345) = some r:=H
         have A56:=Ak A560
         clear A560
         have H':=Ak H
         clear H
         try go_wp2
         have n0_:=Ak (kD BK338.out)
         have n1_:=Ak (kD BK339.out)
         have n2_:=Ak (kD BK340.out)
         have n3_:=Ak (kD BK346.out)
         have n4_:=Ak (bD HB.out)
         clear BK338 BK339 BK340 BK346 HB
         have BK338:=n0_;have BK339:=n1_;have BK340:=n2_;have BK346:=n3_;have HB:=n4_
         clear n0_ n1_ n2_ n3_ n4_
         refine start_ (n:=24) (S:=fun w' => w'.cell? ⟨gb346,0,none⟩ = some (.int .i64 t342)∧w'.cell? ⟨gb346,1,none⟩ = some (.int .i64 t343)∧w'.cell? ⟨gb346,2,none⟩ = some (.int .i64 t344)∧w'.cell? ⟨gb346,3,none⟩ = some (.int .i64 t345)∧w'.cell? ⟨gb338,0,none⟩ = some (.int .i64 a0_0)∧w'.cell? ⟨gb338,1,none⟩ = some (.int .i64 a0_1)∧w'.cell? ⟨gb338,2,none⟩ = some (.int .i64 a0_2)∧w'.cell? ⟨gb338,3,none⟩ = some (.int .i64 a0_3)∧w'.cell? ⟨gb339,0,none⟩ = some (.int .i64 a1_0)∧w'.cell? ⟨gb339,1,none⟩ = some (.int .i64 a1_1)∧w'.cell? ⟨gb339,2,none⟩ = some (.int .i64 a1_2)∧w'.cell? ⟨gb339,3,none⟩ = some (.int .i64 a1_3)) (ds:=[]) #[ff,ff,ff,ff,ff,ff,ff,ff,ff,ff,ff,ff,ff,ff,ff,ff,ff,ff,ff,ff,ff,ff,ff,ff] (by kernel_rfl) rfl rfl ⟨(kC BK346.out 0).trans rfl,(kC BK346.out 1).trans rfl,(kC BK346.out 2).trans rfl,(kC BK346.out 3).trans rfl,(kC BK338.out 0).trans rfl,(kC BK338.out 1).trans rfl,(kC BK338.out 2).trans rfl,(kC BK338.out 3).trans rfl,(kC BK339.out 0).trans rfl,(kC BK339.out 1).trans rfl,(kC BK339.out 2).trans rfl,(kC BK339.out 3).trans rfl⟩ (fun hHeld => ?_);refine with_tabW gazetteerlaw09_KeyUnion.tab6 gazetteerlaw09_KeyUnion.bits6 (fun HT_ HW_ => ?_)
         generalize wc.drew = w57 at BK338 BK339 BK340 BK346 HB hHeld ⊢
         refine take_ (i:=0) (N:=some 26) (v:=?_) (a':=?_) #[tt,ff,ff,ff,ff,ff,ff,ff,ff,ff,ff,ff,ff,ff,ff,ff,ff,ff,ff,ff,ff,ff,ff,ff] rfl rfl (take_ofW HT_.out HW_.out (by kernel_rfl)) (fun _ _ _ h => h) (Or.inl ⟨by rfl,?_⟩) hHeld ?_ ?_
         rotate_left
         ·rintro w' ⟨s0,s1,s2,s3,s4,s5,s6,s7,s8,s9,s10,s11⟩
          go_simp
          with_reducible rfl
         rotate_left
         ·simp only [Act.put,sA,sZ,sS,i64_w,i32_w]
          rfl
         refine take_ (i:=1) (N:=some 27) (v:=?_) (a':=?_) #[tt,tt,ff,ff,ff,ff,ff,ff,ff,ff,ff,ff,ff,ff,ff,ff,ff,ff,ff,ff,ff,ff,ff,ff] rfl rfl (take_ofW HT_.out HW_.out (by kernel_rfl)) (fun _ _ _ h => h) (Or.inl ⟨by rfl,?_⟩) hHeld ?_ ?_
         rotate_left
         ·rintro w' ⟨s0,s1,s2,s3,s4,s5,s6,s7,s8,s9,s10,s11⟩
          go_simp
          with_reducible rfl
         rotate_left
         ·simp only [Act.put,sA,sZ,sS,i64_w,i32_w]
          rfl
         refine one_ (i:=2) (N:=some 28) #[tt,tt,tt,ff,ff,ff,ff,ff,ff,ff,ff,ff,ff,ff,ff,ff,ff,ff,ff,ff,ff,ff,ff,ff] rfl rfl (one_of HT_.out (by kernel_rfl)) (by decide) (fun K hK => ?_)
         refine goes_ Try.func35 (by kernel_rfl) rfl #[.agg #[.int .i64 t342,.int .i64 t343,.int .i64 t344,.int .i64 t345],.agg #[.int .i64 a0_0,.int .i64 a0_1,.int .i64 a0_2,.int .i64 a0_3]] (by rfl) rfl rfl (by (try simp only [List.map_toArray,List.map_cons,List.map_nil]);first|done|rfl|(simp only [List.length_drop,List.length_take];rfl)) ?_
         with_reducible refine (key_Covers.calls t342 t343 t344 t345 a0_0 a0_1 a0_2 a0_3 true _ A46.out).mono ?_
         rintro e w58 ⟨rfl,hb⟩
         refine ⟨_,rfl,?_⟩
         have n0_:=Kb BK338 hb
         have n1_:=Kb BK339 hb
         have n2_:=Kb BK340 hb
         have n3_:=Kb BK346 hb
         have n4_:=Kh HB hb
         clear BK338 BK339 BK340 BK346 HB
         have BK338:=n0_;have BK339:=n1_;have BK340:=n2_;have BK346:=n3_;have HB:=n4_
         clear n0_ n1_ n2_ n3_ n4_
         (try clear hb)
         (try clear hb2)
         (try clear hk)
         (try clear hi)
         refine hK.out _ _ ⟨(kC BK346.out 0).trans rfl,(kC BK346.out 1).trans rfl,(kC BK346.out 2).trans rfl,(kC BK346.out 3).trans rfl,(kC BK338.out 0).trans rfl,(kC BK338.out 1).trans rfl,(kC BK338.out 2).trans rfl,(kC BK338.out 3).trans rfl,(kC BK339.out 0).trans rfl,(kC BK339.out 1).trans rfl,(kC BK339.out 2).trans rfl,(kC BK339.out 3).trans rfl⟩ (fun hHeld => ?_)
         clear hK K
         refine norm_ (a':=?_) ?_ ?_
         rotate_left
         ·show Act.put _ (some 28) _ = _
          simp only [Act.put,sA,sZ,sS,i64_w,i32_w]
          rfl
         refine pure_ (i:=3) (N:=some 29) (v:=?_) (a':=?_) #[tt,tt,tt,tt,ff,ff,ff,ff,ff,ff,ff,ff,ff,ff,ff,ff,ff,ff,ff,ff,ff,ff,ff,ff] rfl rfl (any_of HT_.out (by kernel_rfl)) (fun _ _ _ h => h) (Or.inl ⟨by rfl,?_⟩) ?_ ?_
         rotate_left
         ·intro w'
          go_simp
          with_reducible rfl
         rotate_left
         ·simp only [Act.put,sA,sZ,sS,i64_w,i32_w]
          rfl
         refine pure_ (i:=4) (N:=some 30) (v:=?_) (a':=?_) #[tt,tt,tt,tt,tt,ff,ff,ff,ff,ff,ff,ff,ff,ff,ff,ff,ff,ff,ff,ff,ff,ff,ff,ff] rfl rfl (any_of HT_.out (by kernel_rfl)) (fun _ _ _ h => h) (Or.inl ⟨by rfl,?_⟩) ?_ ?_
         rotate_left
         ·intro w'
          go_simp
          with_reducible rfl
         rotate_left
         ·simp only [Act.put,sA,sZ,sS,i64_w,i32_w]
          rfl
         refine take_ (i:=5) (N:=some 31) (v:=?_) (a':=?_) #[tt,tt,tt,tt,tt,tt,ff,ff,ff,ff,ff,ff,ff,ff,ff,ff,ff,ff,ff,ff,ff,ff,ff,ff] rfl rfl (take_ofW HT_.out HW_.out (by kernel_rfl)) (fun _ _ _ h => h) (Or.inl ⟨by rfl,?_⟩) hHeld ?_ ?_
         rotate_left
         ·rintro w' ⟨s0,s1,s2,s3,s4,s5,s6,s7,s8,s9,s10,s11⟩
          go_simp
          with_reducible rfl
         rotate_left
         ·simp only [Act.put,sA,sZ,sS,i64_w,i32_w]
          rfl
         refine take_ (i:=6) (N:=some 32) (v:=?_) (a':=?_) #[tt,tt,tt,tt,tt,tt,tt,ff,ff,ff,ff,ff,ff,ff,ff,ff,ff,ff,ff,ff,ff,ff,ff,ff] rfl rfl (take_ofW HT_.out HW_.out (by kernel_rfl)) (fun _ _ _ h => h) (Or.inl ⟨by rfl,?_⟩) hHeld ?_ ?_
         rotate_left
         ·rintro w' ⟨s0,s1,s2,s3,s4,s5,s6,s7,s8,s9,s10,s11⟩
          go_simp
          with_reducible rfl
         rotate_left
         ·simp only [Act.put,sA,sZ,sS,i64_w,i32_w]
          rfl
         refine one_ (i:=7) (N:=some 33) #[tt,tt,tt,tt,tt,tt,tt,tt,ff,ff,ff,ff,ff,ff,ff,ff,ff,ff,ff,ff,ff,ff,ff,ff] rfl rfl (one_of HT_.out (by kernel_rfl)) (by decide) (fun K hK => ?_)
         refine goes_ Try.func35 (by kernel_rfl) rfl #[.agg #[.int .i64 t342,.int .i64 t343,.int .i64 t344,.int .i64 t345],.agg #[.int .i64 a1_0,.int .i64 a1_1,.int .i64 a1_2,.int .i64 a1_3]] (by rfl) rfl rfl (by (try simp only [List.map_toArray,List.map_cons,List.map_nil]);first|done|rfl|(simp only [List.length_drop,List.length_take];rfl)) ?_
         with_reducible refine (key_Covers.calls t342 t343 t344 t345 a1_0 a1_1 a1_2 a1_3 true _ A48.out).mono ?_
         rintro e w59 ⟨rfl,hb⟩
         refine ⟨_,rfl,?_⟩
         have n0_:=Kb BK338 hb
         have n1_:=Kb BK339 hb
         have n2_:=Kb BK340 hb
         have n3_:=Kb BK346 hb
         have n4_:=Kh HB hb
         clear BK338 BK339 BK340 BK346 HB
         have BK338:=n0_;have BK339:=n1_;have BK340:=n2_;have BK346:=n3_;have HB:=n4_
         clear n0_ n1_ n2_ n3_ n4_
         (try clear hb)
         (try clear hb2)
         (try clear hk)
         (try clear hi)
         refine hK.out _ _ ⟨(kC BK346.out 0).trans rfl,(kC BK346.out 1).trans rfl,(kC BK346.out 2).trans rfl,(kC BK346.out 3).trans rfl,(kC BK338.out 0).trans rfl,(kC BK338.out 1).trans rfl,(kC BK338.out 2).trans rfl,(kC BK338.out 3).trans rfl,(kC BK339.out 0).trans rfl,(kC BK339.out 1).trans rfl,(kC BK339.out 2).trans rfl,(kC BK339.out 3).trans rfl⟩ (fun hHeld => ?_)
         clear hK K
         refine norm_ (a':=?_) ?_ ?_
         rotate_left
         ·show Act.put _ (some 33) _ = _
          simp only [Act.put,sA,sZ,sS,i64_w,i32_w]
          rfl
         refine pure_ (i:=8) (N:=some 34) (v:=?_) (a':=?_) #[tt,tt,tt,tt,tt,tt,tt,tt,tt,ff,ff,ff,ff,ff,ff,ff,ff,ff,ff,ff,ff,ff,ff,ff] rfl rfl (any_of HT_.out (by kernel_rfl)) (fun _ _ _ h => h) (Or.inl ⟨by rfl,?_⟩) ?_ ?_
         rotate_left
         ·intro w'
          go_simp
          with_reducible rfl
         rotate_left
         ·simp only [Act.put,sA,sZ,sS,i64_w,i32_w]
          rfl
         refine pure_ (i:=9) (N:=some 35) (v:=?_) (a':=?_) #[tt,tt,tt,tt,tt,tt,tt,tt,tt,tt,ff,ff,ff,ff,ff,ff,ff,ff,ff,ff,ff,ff,ff,ff] rfl rfl (any_of HT_.out (by kernel_rfl)) (fun _ _ _ h => h) (Or.inl ⟨by rfl,?_⟩) ?_ ?_
         rotate_left
         ·intro w'
          go_simp
          with_reducible rfl
         rotate_left
         ·simp only [Act.put,sA,sZ,sS,i64_w,i32_w]
          rfl
         refine pure_ (i:=10) (N:=some 36) (v:=?_) (a':=?_) #[tt,tt,tt,tt,tt,tt,tt,tt,tt,tt,tt,ff,ff,ff,ff,ff,ff,ff,ff,ff,ff,ff,ff,ff] rfl rfl (any_of HT_.out (by kernel_rfl)) (fun _ _ _ h => h) (Or.inl ⟨by rfl,?_⟩) ?_ ?_
         rotate_left
         ·intro w'
          go_simp
          with_reducible rfl
         rotate_left
         ·simp only [Act.put,sA,sZ,sS,i64_w,i32_w]
          rfl
         refine take_ (i:=11) (N:=some 37) (v:=?_) (a':=?_) #[tt,tt,tt,tt,tt,tt,tt,tt,tt,tt,tt,tt,ff,ff,ff,ff,ff,ff,ff,ff,ff,ff,ff,ff] rfl rfl (take_ofW HT_.out HW_.out (by kernel_rfl)) (fun _ _ _ h => h) (Or.inl ⟨by rfl,?_⟩) hHeld ?_ ?_
         rotate_left
         ·rintro w' ⟨s0,s1,s2,s3,s4,s5,s6,s7,s8,s9,s10,s11⟩
          go_simp
          with_reducible rfl
         rotate_left
         ·simp only [Act.put,sA,sZ,sS,i64_w,i32_w]
          rfl
         refine take_ (i:=12) (N:=some 38) (v:=?_) (a':=?_) #[tt,tt,tt,tt,tt,tt,tt,tt,tt,tt,tt,tt,tt,ff,ff,ff,ff,ff,ff,ff,ff,ff,ff,ff] rfl rfl (take_ofW HT_.out HW_.out (by kernel_rfl)) (fun _ _ _ h => h) (Or.inl ⟨by rfl,?_⟩) hHeld ?_ ?_
         rotate_left
         ·rintro w' ⟨s0,s1,s2,s3,s4,s5,s6,s7,s8,s9,s10,s11⟩
          go_simp
          with_reducible rfl
         rotate_left
         ·simp only [Act.put,sA,sZ,sS,i64_w,i32_w]
          rfl
         refine take_ (i:=13) (N:=some 39) (v:=?_) (a':=?_) #[tt,tt,tt,tt,tt,tt,tt,tt,tt,tt,tt,tt,tt,tt,ff,ff,ff,ff,ff,ff,ff,ff,ff,ff] rfl rfl (take_ofW HT_.out HW_.out (by kernel_rfl)) (fun _ _ _ h => h) (Or.inl ⟨by rfl,?_⟩) hHeld ?_ ?_
         rotate_left
         ·rintro w' ⟨s0,s1,s2,s3,s4,s5,s6,s7,s8,s9,s10,s11⟩
          go_simp
          with_reducible rfl
         rotate_left
         ·simp only [Act.put,sA,sZ,sS,i64_w,i32_w]
          rfl
         refine one_ (i:=14) (N:=some 40) #[tt,tt,tt,tt,tt,tt,tt,tt,tt,tt,tt,tt,tt,tt,tt,ff,ff,ff,ff,ff,ff,ff,ff,ff] rfl rfl (one_of HT_.out (by kernel_rfl)) (by decide) (fun K hK => ?_)
         refine goes_ Try.func40 (by kernel_rfl) rfl #[.agg #[.int .i64 a1_0,.int .i64 a1_1,.int .i64 a1_2,.int .i64 a1_3],.agg #[.int .i64 a0_0,.int .i64 a0_1,.int .i64 a0_2,.int .i64 a0_3]] (by rfl) rfl rfl (by (try simp only [List.map_toArray,List.map_cons,List.map_nil]);first|done|rfl|(simp only [List.length_drop,List.length_take];rfl)) ?_
         with_reducible refine (key_Union.calls a1_0 a1_1 a1_2 a1_3 a0_0 a0_1 a0_2 a0_3 t351 t352 t353 t354 _ A50.out).mono ?_
         rintro e w60 ⟨rfl,hb⟩
         refine ⟨_,rfl,?_⟩
         have n0_:=Kb BK338 hb
         have n1_:=Kb BK339 hb
         have n2_:=Kb BK340 hb
         have n3_:=Kb BK346 hb
         have n4_:=Kh HB hb
         clear BK338 BK339 BK340 BK346 HB
         have BK338:=n0_;have BK339:=n1_;have BK340:=n2_;have BK346:=n3_;have HB:=n4_
         clear n0_ n1_ n2_ n3_ n4_
         (try clear hb)
         (try clear hb2)
         (try clear hk)
         (try clear hi)
         refine hK.out _ _ ⟨(kC BK346.out 0).trans rfl,(kC BK346.out 1).trans rfl,(kC BK346.out 2).trans rfl,(kC BK346.out 3).trans rfl,(kC BK338.out 0).trans rfl,(kC BK338.out 1).trans rfl,(kC BK338.out 2).trans rfl,(kC BK338.out 3).trans rfl,(kC BK339.out 0).trans rfl,(kC BK339.out 1).trans rfl,(kC BK339.out 2).trans rfl,(kC BK339.out 3).trans rfl⟩ (fun hHeld => ?_)
         clear hK K
         refine norm_ (a':=?_) ?_ ?_
         rotate_left
         ·show Act.put _ (some 40) _ = _
          simp only [Act.put,sA,sZ,sS,i64_w,i32_w]
          rfl
         refine pure_ (i:=15) (N:=some 41) (v:=?_) (a':=?_) #[tt,tt,tt,tt,tt,tt,tt,tt,tt,tt,tt,tt,tt,tt,tt,tt,ff,ff,ff,ff,ff,ff,ff,ff] rfl rfl (any_of HT_.out (by kernel_rfl)) (fun _ _ _ h => h) (Or.inl ⟨by rfl,?_⟩) ?_ ?_
         rotate_left
         ·intro w'
          go_simp
          with_reducible rfl
         rotate_left
         ·simp only [Act.put,sA,sZ,sS,i64_w,i32_w]
          rfl
         refine pure_ (i:=16) (N:=some 42) (v:=?_) (a':=?_) #[tt,tt,tt,tt,tt,tt,tt,tt,tt,tt,tt,tt,tt,tt,tt,tt,tt,ff,ff,ff,ff,ff,ff,ff] rfl rfl (any_of HT_.out (by kernel_rfl)) (fun _ _ _ h => h) (Or.inl ⟨by rfl,?_⟩) ?_ ?_
         rotate_left
         ·intro w'
          go_simp
          with_reducible rfl
         rotate_left
         ·simp only [Act.put,sA,sZ,sS,i64_w,i32_w]
          rfl
         refine pure_ (i:=17) (N:=some 43) (v:=?_) (a':=?_) #[tt,tt,tt,tt,tt,tt,tt,tt,tt,tt,tt,tt,tt,tt,tt,tt,tt,tt,ff,ff,ff,ff,ff,ff] rfl rfl (any_of HT_.out (by kernel_rfl)) (fun _ _ _ h => h) (Or.inl ⟨by rfl,?_⟩) ?_ ?_
         rotate_left
         ·intro w'
          go_simp
          with_reducible rfl
         rotate_left
         ·simp only [Act.put,sA,sZ,sS,i64_w,i32_w]
          rfl
         refine take_ (i:=18) (N:=some 44) (v:=?_) (a':=?_) #[tt,tt,tt,tt,tt,tt,tt,tt,tt,tt,tt,tt,tt,tt,tt,tt,tt,tt,tt,ff,ff,ff,ff,ff] rfl rfl (take_ofW HT_.out HW_.out (by kernel_rfl)) (fun _ _ _ h => h) (Or.inl ⟨by rfl,?_⟩) hHeld ?_ ?_
         rotate_left
         ·rintro w' ⟨s0,s1,s2,s3,s4,s5,s6,s7,s8,s9,s10,s11⟩
          go_simp
          with_reducible rfl
         rotate_left
         ·simp only [Act.put,sA,sZ,sS,i64_w,i32_w]
          rfl
         refine take_ (i:=19) (N:=some 45) (v:=?_) (a':=?_) #[tt,tt,tt,tt,tt,tt,tt,tt,tt,tt,tt,tt,tt,tt,tt,tt,tt,tt,tt,tt,ff,ff,ff,ff] rfl rfl (take_ofW HT_.out HW_.out (by kernel_rfl)) (fun _ _ _ h => h) (Or.inl ⟨by rfl,?_⟩) hHeld ?_ ?_
         rotate_left
         ·rintro w' ⟨s0,s1,s2,s3,s4,s5,s6,s7,s8,s9,s10,s11⟩
          go_simp
          with_reducible rfl
         rotate_left
         ·simp only [Act.put,sA,sZ,sS,i64_w,i32_w]
          rfl
         refine take_ (i:=21) (N:=some 47) (v:=?_) (a':=?_) #[tt,tt,tt,tt,tt,tt,tt,tt,tt,tt,tt,tt,tt,tt,tt,tt,tt,tt,tt,tt,ff,tt,ff,ff] rfl rfl (take_ofW HT_.out HW_.out (by kernel_rfl)) (fun _ _ _ h => h) (Or.inl ⟨by rfl,?_⟩) hHeld ?_ ?_
         rotate_left
         ·rintro w' ⟨s0,s1,s2,s3,s4,s5,s6,s7,s8,s9,s10,s11⟩
          go_simp
          with_reducible rfl
         rotate_left
         ·simp only [Act.put,sA,sZ,sS,i64_w,i32_w]
          rfl
         refine one_ (i:=20) (N:=some 46) #[tt,tt,tt,tt,tt,tt,tt,tt,tt,tt,tt,tt,tt,tt,tt,tt,tt,tt,tt,tt,tt,tt,ff,ff] rfl rfl (one_of HT_.out (by kernel_rfl)) (by decide) (fun K hK => ?_)
         refine goes_ Try.func40 (by kernel_rfl) rfl #[.agg #[.int .i64 a0_0,.int .i64 a0_1,.int .i64 a0_2,.int .i64 a0_3],.agg #[.int .i64 a0_0,.int .i64 a0_1,.int .i64 a0_2,.int .i64 a0_3]] (by rfl) rfl rfl (by (try simp only [List.map_toArray,List.map_cons,List.map_nil]);first|done|rfl|(simp only [List.length_drop,List.length_take];rfl)) ?_
         with_reducible refine (key_Union.calls a0_0 a0_1 a0_2 a0_3 a0_0 a0_1 a0_2 a0_3 t355 t356 t357 t358 _ A56.out).mono ?_
         rintro e w61 ⟨rfl,hb⟩
         refine ⟨_,rfl,?_⟩
         have n0_:=Kb BK338 hb
         have n1_:=Kb BK339 hb
         have n2_:=Kb BK340 hb
         have n3_:=Kb BK346 hb
         have n4_:=Kh HB hb
         clear BK338 BK339 BK340 BK346 HB
         have BK338:=n0_;have BK339:=n1_;have BK340:=n2_;have BK346:=n3_;have HB:=n4_
         clear n0_ n1_ n2_ n3_ n4_
         (try clear hb)
         (try clear hb2)
         (try clear hk)
         (try clear hi)
         refine hK.out _ _ ⟨(kC BK346.out 0).trans rfl,(kC BK346.out 1).trans rfl,(kC BK346.out 2).trans rfl,(kC BK346.out 3).trans rfl,(kC BK338.out 0).trans rfl,(kC BK338.out 1).trans rfl,(kC BK338.out 2).trans rfl,(kC BK338.out 3).trans rfl,(kC BK339.out 0).trans rfl,(kC BK339.out 1).trans rfl,(kC BK339.out 2).trans rfl,(kC BK339.out 3).trans rfl⟩ (fun hHeld => ?_)
         clear hK K
         refine norm_ (a':=?_) ?_ ?_
         rotate_left
         ·show Act.put _ (some 46) _ = _
          simp only [Act.put,sA,sZ,sS,i64_w,i32_w]
          rfl
         refine pure_ (i:=22) (N:=some 48) (v:=?_) (a':=?_) #[tt,tt,tt,tt,tt,tt,tt,tt,tt,tt,tt,tt,tt,tt,tt,tt,tt,tt,tt,tt,tt,tt,tt,ff] rfl rfl (any_of HT_.out (by kernel_rfl)) (fun _ _ _ h => h) (Or.inl ⟨by rfl,?_⟩) ?_ ?_
         rotate_left
         ·intro w'
          go_simp
          with_reducible rfl
         rotate_left
         ·simp only [Act.put,sA,sZ,sS,i64_w,i32_w]
          rfl
         refine pure_ (i:=23) (N:=some 49) (v:=?_) (a':=?_) #[tt,tt,tt,tt,tt,tt,tt,tt,tt,tt,tt,tt,tt,tt,tt,tt,tt,tt,tt,tt,tt,tt,tt,tt] rfl rfl (any_of HT_.out (by kernel_rfl)) (fun _ _ _ h => h) (Or.inl ⟨by rfl,?_⟩) ?_ ?_
         rotate_left
         ·intro w'
          go_simp
          with_reducible rfl
         rotate_left
         ·simp only [Act.put,sA,sZ,sS,i64_w,i32_w]
          rfl
         refine done_ (done_of HT_.out (by kernel_rfl)) ?_
         try go_wp2
         go_meet
         case rel => exact ⟨_,((!(t355 == a0_0) || (!(t356 == a0_1) || (!(t357 == a0_2) || (!(t358 == a0_3)))))),(by first|rfl|(simp;done)|(simp [*];done)),H',⟨by have:=HJ6.out;first|omega|exact Nat.le_refl _⟩,⟨by (with_reducible repeat (first|refine kN ?_ _|refine kD ?_|refine kA ?_ _));exact BK338.out⟩,⟨by (with_reducible repeat (first|refine kN ?_ _|refine kD ?_|refine kA ?_ _));exact BK339.out⟩,⟨by (with_reducible repeat (first|refine kN ?_ _|refine kD ?_|refine kA ?_ _));exact BK340.out⟩,⟨by (with_reducible repeat (first|refine kN ?_ _|refine kD ?_|refine kA ?_ _));exact BK346.out⟩,⟨by repeat (first|(with_reducible first|exact HB.out|apply bA|apply bN|apply bD|refine bS ?_ GE338.out|refine bS ?_ GE339.out|refine bS ?_ GE340.out|refine bS ?_ GE346.out)|exact HB.out)⟩⟩
       ·replace c49:=Bool.eq_false_iff.mpr c49
        subst c49
        have H1 : (gazetteerlaw09_KeyUnion.j1 kj6 true a0_0 a0_1 a0_2 a0_3 a1_0 a1_1 a1_2 a1_3 a2_0 a2_1 a2_2 a2_3 t342 t343 t344 t345) = some r:=by rw [if_neg (show ¬ (false = true) by decide)] at H;exact H
        clear H
        have H:=H1
        clear H1
        have H':=Ak H
        clear H
        try go_wp2
        have n0_:=Ak (kD BK338.out)
        have n1_:=Ak (kD BK339.out)
        have n2_:=Ak (kD BK340.out)
        have n3_:=Ak (kD BK346.out)
        have n4_:=Ak (bD HB.out)
        clear BK338 BK339 BK340 BK346 HB
        have BK338:=n0_;have BK339:=n1_;have BK340:=n2_;have BK346:=n3_;have HB:=n4_
        clear n0_ n1_ n2_ n3_ n4_
        refine start_ (n:=24) (S:=fun w' => w'.cell? ⟨gb346,0,none⟩ = some (.int .i64 t342)∧w'.cell? ⟨gb346,1,none⟩ = some (.int .i64 t343)∧w'.cell? ⟨gb346,2,none⟩ = some (.int .i64 t344)∧w'.cell? ⟨gb346,3,none⟩ = some (.int .i64 t345)∧w'.cell? ⟨gb338,0,none⟩ = some (.int .i64 a0_0)∧w'.cell? ⟨gb338,1,none⟩ = some (.int .i64 a0_1)∧w'.cell? ⟨gb338,2,none⟩ = some (.int .i64 a0_2)∧w'.cell? ⟨gb338,3,none⟩ = some (.int .i64 a0_3)∧w'.cell? ⟨gb339,0,none⟩ = some (.int .i64 a1_0)∧w'.cell? ⟨gb339,1,none⟩ = some (.int .i64 a1_1)∧w'.cell? ⟨gb339,2,none⟩ = some (.int .i64 a1_2)∧w'.cell? ⟨gb339,3,none⟩ = some (.int .i64 a1_3)) (ds:=[]) #[ff,ff,ff,ff,ff,ff,ff,ff,ff,ff,ff,ff,ff,ff,ff,ff,ff,ff,ff,ff,ff,ff,ff,ff] (by kernel_rfl) rfl rfl ⟨(kC BK346.out 0).trans rfl,(kC BK346.out 1).trans rfl,(kC BK346.out 2).trans rfl,(kC BK346.out 3).trans rfl,(kC BK338.out 0).trans rfl,(kC BK338.out 1).trans rfl,(kC BK338.out 2).trans rfl,(kC BK338.out 3).trans rfl,(kC BK339.out 0).trans rfl,(kC BK339.out 1).trans rfl,(kC BK339.out 2).trans rfl,(kC BK339.out 3).trans rfl⟩ (fun hHeld => ?_);refine with_tabW gazetteerlaw09_KeyUnion.tab6 gazetteerlaw09_KeyUnion.bits6 (fun HT_ HW_ => ?_)
        generalize wc.drew = w62 at BK338 BK339 BK340 BK346 HB hHeld ⊢
        refine take_ (i:=0) (N:=some 26) (v:=?_) (a':=?_) #[tt,ff,ff,ff,ff,ff,ff,ff,ff,ff,ff,ff,ff,ff,ff,ff,ff,ff,ff,ff,ff,ff,ff,ff] rfl rfl (take_ofW HT_.out HW_.out (by kernel_rfl)) (fun _ _ _ h => h) (Or.inl ⟨by rfl,?_⟩) hHeld ?_ ?_
        rotate_left
        ·rintro w' ⟨s0,s1,s2,s3,s4,s5,s6,s7,s8,s9,s10,s11⟩
         go_simp
         with_reducible rfl
        rotate_left
        ·simp only [Act.put,sA,sZ,sS,i64_w,i32_w]
         rfl
        refine take_ (i:=1) (N:=some 27) (v:=?_) (a':=?_) #[tt,tt,ff,ff,ff,ff,ff,ff,ff,ff,ff,ff,ff,ff,ff,ff,ff,ff,ff,ff,ff,ff,ff,ff] rfl rfl (take_ofW HT_.out HW_.out (by kernel_rfl)) (fun _ _ _ h => h) (Or.inl ⟨by rfl,?_⟩) hHeld ?_ ?_
        rotate_left
        ·rintro w' ⟨s0,s1,s2,s3,s4,s5,s6,s7,s8,s9,s10,s11⟩
         go_simp
         with_reducible rfl
        rotate_left
        ·simp only [Act.put,sA,sZ,sS,i64_w,i32_w]
         rfl
        refine one_ (i:=2) (N:=some 28) #[tt,tt,tt,ff,ff,ff,ff,ff,ff,ff,ff,ff,ff,ff,ff,ff,ff,ff,ff,ff,ff,ff,ff,ff] rfl rfl (one_of HT_.out (by kernel_rfl)) (by decide) (fun K hK => ?_)
        refine goes_ Try.func35 (by kernel_rfl) rfl #[.agg #[.int .i64 t342,.int .i64 t343,.int .i64 t344,.int .i64 t345],.agg #[.int .i64 a0_0,.int .i64 a0_1,.int .i64 a0_2,.int .i64 a0_3]] (by rfl) rfl rfl (by (try simp only [List.map_toArray,List.map_cons,List.map_nil]);first|done|rfl|(simp only [List.length_drop,List.length_take];rfl)) ?_
        with_reducible refine (key_Covers.calls t342 t343 t344 t345 a0_0 a0_1 a0_2 a0_3 true _ A46.out).mono ?_
        rintro e w63 ⟨rfl,hb⟩
        refine ⟨_,rfl,?_⟩
        have n0_:=Kb BK338 hb
        have n1_:=Kb BK339 hb
        have n2_:=Kb BK340 hb
        have n3_:=Kb BK346 hb
        have n4_:=Kh HB hb
        clear BK338 BK339 BK340 BK346 HB
        have BK338:=n0_;have BK339:=n1_;have BK340:=n2_;have BK346:=n3_;have HB:=n4_
        clear n0_ n1_ n2_ n3_ n4_
        (try clear hb)
        (try clear hb2)
        (try clear hk)
        (try clear hi)
        refine hK.out _ _ ⟨(kC BK346.out 0).trans rfl,(kC BK346.out 1).trans rfl,(kC BK346.out 2).trans rfl,(kC BK346.out 3).trans rfl,(kC BK338.out 0).trans rfl,(kC BK338.out 1).trans rfl,(kC BK338.out 2).trans rfl,(kC BK338.out 3).trans rfl,(kC BK339.out 0).trans rfl,(kC BK339.out 1).trans rfl,(kC BK339.out 2).trans rfl,(kC BK339.out 3).trans rfl⟩ (fun hHeld => ?_)
        clear hK K
        refine norm_ (a':=?_) ?_ ?_
        rotate_left
        ·show Act.put _ (some 28) _ = _
         simp only [Act.put,sA,sZ,sS,i64_w,i32_w]
         rfl
        refine pure_ (i:=3) (N:=some 29) (v:=?_) (a':=?_) #[tt,tt,tt,tt,ff,ff,ff,ff,ff,ff,ff,ff,ff,ff,ff,ff,ff,ff,ff,ff,ff,ff,ff,ff] rfl rfl (any_of HT_.out (by kernel_rfl)) (fun _ _ _ h => h) (Or.inl ⟨by rfl,?_⟩) ?_ ?_
        rotate_left
        ·intro w'
         go_simp
         with_reducible rfl
        rotate_left
        ·simp only [Act.put,sA,sZ,sS,i64_w,i32_w]
         rfl
        refine pure_ (i:=4) (N:=some 30) (v:=?_) (a':=?_) #[tt,tt,tt,tt,tt,ff,ff,ff,ff,ff,ff,ff,ff,ff,ff,ff,ff,ff,ff,ff,ff,ff,ff,ff] rfl rfl (any_of HT_.out (by kernel_rfl)) (fun _ _ _ h => h) (Or.inl ⟨by rfl,?_⟩) ?_ ?_
        rotate_left
        ·intro w'
         go_simp
         with_reducible rfl
        rotate_left
        ·simp only [Act.put,sA,sZ,sS,i64_w,i32_w]
         rfl
        refine take_ (i:=5) (N:=some 31) (v:=?_) (a':=?_) #[tt,tt,tt,tt,tt,tt,ff,ff,ff,ff,ff,ff,ff,ff,ff,ff,ff,ff,ff,ff,ff,ff,ff,ff] rfl rfl (take_ofW HT_.out HW_.out (by kernel_rfl)) (fun _ _ _ h => h) (Or.inl ⟨by rfl,?_⟩) hHeld ?_ ?_
        rotate_left
        ·rintro w' ⟨s0,s1,s2,s3,s4,s5,s6,s7,s8,s9,s10,s11⟩
         go_simp
         with_reducible rfl
        rotate_left
        ·simp only [Act.put,sA,sZ,sS,i64_w,i32_w]
         rfl
        refine take_ (i:=6) (N:=some 32) (v:=?_) (a':=?_) #[tt,tt,tt,tt,tt,tt,tt,ff,ff,ff,ff,ff,ff,ff,ff,ff,ff,ff,ff,ff,ff,ff,ff,ff] rfl rfl (take_ofW HT_.out HW_.out (by kernel_rfl)) (fun _ _ _ h => h) (Or.inl ⟨by rfl,?_⟩) hHeld ?_ ?_
        rotate_left
        ·rintro w' ⟨s0,s1,s2,s3,s4,s5,s6,s7,s8,s9,s10,s11⟩
         go_simp
         with_reducible rfl
        rotate_left
        ·simp only [Act.put,sA,sZ,sS,i64_w,i32_w]
         rfl
        refine one_ (i:=7) (N:=some 33) #[tt,tt,tt,tt,tt,tt,tt,tt,ff,ff,ff,ff,ff,ff,ff,ff,ff,ff,ff,ff,ff,ff,ff,ff] rfl rfl (one_of HT_.out (by kernel_rfl)) (by decide) (fun K hK => ?_)
        refine goes_ Try.func35 (by kernel_rfl) rfl #[.agg #[.int .i64 t342,.int .i64 t343,.int .i64 t344,.int .i64 t345],.agg #[.int .i64 a1_0,.int .i64 a1_1,.int .i64 a1_2,.int .i64 a1_3]] (by rfl) rfl rfl (by (try simp only [List.map_toArray,List.map_cons,List.map_nil]);first|done|rfl|(simp only [List.length_drop,List.length_take];rfl)) ?_
        with_reducible refine (key_Covers.calls t342 t343 t344 t345 a1_0 a1_1 a1_2 a1_3 false _ A48.out).mono ?_
        rintro e w64 ⟨rfl,hb⟩
        refine ⟨_,rfl,?_⟩
        have n0_:=Kb BK338 hb
        have n1_:=Kb BK339 hb
        have n2_:=Kb BK340 hb
        have n3_:=Kb BK346 hb
        have n4_:=Kh HB hb
        clear BK338 BK339 BK340 BK346 HB
        have BK338:=n0_;have BK339:=n1_;have BK340:=n2_;have BK346:=n3_;have HB:=n4_
        clear n0_ n1_ n2_ n3_ n4_
        (try clear hb)
        (try clear hb2)
        (try clear hk)
        (try clear hi)
        refine hK.out _ _ ⟨(kC BK346.out 0).trans rfl,(kC BK346.out 1).trans rfl,(kC BK346.out 2).trans rfl,(kC BK346.out 3).trans rfl,(kC BK338.out 0).trans rfl,(kC BK338.out 1).trans rfl,(kC BK338.out 2).trans rfl,(kC BK338.out 3).trans rfl,(kC BK339.out 0).trans rfl,(kC BK339.out 1).trans rfl,(kC BK339.out 2).trans rfl,(kC BK339.out 3).trans rfl⟩ (fun hHeld => ?_)
        clear hK K
        refine norm_ (a':=?_) ?_ ?_
        rotate_left
        ·show Act.put _ (some 33) _ = _
         simp only [Act.put,sA,sZ,sS,i64_w,i32_w]
         rfl
        refine pure_ (i:=8) (N:=some 34) (v:=?_) (a':=?_) #[tt,tt,tt,tt,tt,tt,tt,tt,tt,ff,ff,ff,ff,ff,ff,ff,ff,ff,ff,ff,ff,ff,ff,ff] rfl rfl (any_of HT_.out (by kernel_rfl)) (fun _ _ _ h => h) (Or.inl ⟨by rfl,?_⟩) ?_ ?_
        rotate_left
        ·intro w'
         go_simp
         with_reducible rfl
        rotate_left
        ·simp only [Act.put,sA,sZ,sS,i64_w,i32_w]
         rfl
        refine pure_ (i:=9) (N:=some 35) (v:=?_) (a':=?_) #[tt,tt,tt,tt,tt,tt,tt,tt,tt,tt,ff,ff,ff,ff,ff,ff,ff,ff,ff,ff,ff,ff,ff,ff] rfl rfl (any_of HT_.out (by kernel_rfl)) (fun _ _ _ h => h) (Or.inl ⟨by rfl,?_⟩) ?_ ?_
        rotate_left
        ·intro w'
         go_simp
         with_reducible rfl
        rotate_left
        ·simp only [Act.put,sA,sZ,sS,i64_w,i32_w]
         rfl
        refine pure_ (i:=10) (N:=some 36) (v:=?_) (a':=?_) #[tt,tt,tt,tt,tt,tt,tt,tt,tt,tt,tt,ff,ff,ff,ff,ff,ff,ff,ff,ff,ff,ff,ff,ff] rfl rfl (any_of HT_.out (by kernel_rfl)) (fun _ _ _ h => h) (Or.inl ⟨by rfl,?_⟩) ?_ ?_
        rotate_left
        ·intro w'
         go_simp
         with_reducible rfl
        rotate_left
        ·simp only [Act.put,sA,sZ,sS,i64_w,i32_w]
         rfl
        refine pure_ (i:=11) (N:=some 37) (v:=undef) (a':=?_) #[tt,tt,tt,tt,tt,tt,tt,tt,tt,tt,tt,tt,ff,ff,ff,ff,ff,ff,ff,ff,ff,ff,ff,ff] rfl rfl (any_of HT_.out (by kernel_rfl)) (fun _ _ _ h => h) (Or.inr ⟨by rfl,rfl⟩) ?_ ?_
        rotate_left
        ·simp only [Act.put,sA,sZ,sS,i64_w,i32_w]
         rfl
        refine pure_ (i:=12) (N:=some 38) (v:=undef) (a':=?_) #[tt,tt,tt,tt,tt,tt,tt,tt,tt,tt,tt,tt,tt,ff,ff,ff,ff,ff,ff,ff,ff,ff,ff,ff] rfl rfl (any_of HT_.out (by kernel_rfl)) (fun _ _ _ h => h) (Or.inr ⟨by rfl,rfl⟩) ?_ ?_
        rotate_left
        ·simp only [Act.put,sA,sZ,sS,i64_w,i32_w]
         rfl
        refine pure_ (i:=13) (N:=some 39) (v:=undef) (a':=?_) #[tt,tt,tt,tt,tt,tt,tt,tt,tt,tt,tt,tt,tt,tt,ff,ff,ff,ff,ff,ff,ff,ff,ff,ff] rfl rfl (any_of HT_.out (by kernel_rfl)) (fun _ _ _ h => h) (Or.inr ⟨by rfl,rfl⟩) ?_ ?_
        rotate_left
        ·simp only [Act.put,sA,sZ,sS,i64_w,i32_w]
         rfl
        refine pure_ (i:=14) (N:=some 40) (v:=undef) (a':=?_) #[tt,tt,tt,tt,tt,tt,tt,tt,tt,tt,tt,tt,tt,tt,tt,ff,ff,ff,ff,ff,ff,ff,ff,ff] rfl rfl (any_of HT_.out (by kernel_rfl)) (fun _ _ _ h => h) (Or.inr ⟨by rfl,rfl⟩) ?_ ?_
        rotate_left
        ·simp only [Act.put,sA,sZ,sS,i64_w,i32_w]
         rfl
        refine pure_ (i:=15) (N:=some 41) (v:=undef) (a':=?_) #[tt,tt,tt,tt,tt,tt,tt,tt,tt,tt,tt,tt,tt,tt,tt,tt,ff,ff,ff,ff,ff,ff,ff,ff] rfl rfl (any_of HT_.out (by kernel_rfl)) (fun _ _ _ h => h) (Or.inr ⟨by rfl,rfl⟩) ?_ ?_
        rotate_left
        ·simp only [Act.put,sA,sZ,sS,i64_w,i32_w]
         rfl
        refine pure_ (i:=16) (N:=some 42) (v:=?_) (a':=?_) #[tt,tt,tt,tt,tt,tt,tt,tt,tt,tt,tt,tt,tt,tt,tt,tt,tt,ff,ff,ff,ff,ff,ff,ff] rfl rfl (any_of HT_.out (by kernel_rfl)) (fun _ _ _ h => h) (Or.inl ⟨by rfl,?_⟩) ?_ ?_
        rotate_left
        ·intro w'
         go_simp
         with_reducible rfl
        rotate_left
        ·simp only [Act.put,sA,sZ,sS,i64_w,i32_w]
         rfl
        refine pure_ (i:=17) (N:=some 43) (v:=?_) (a':=?_) #[tt,tt,tt,tt,tt,tt,tt,tt,tt,tt,tt,tt,tt,tt,tt,tt,tt,tt,ff,ff,ff,ff,ff,ff] rfl rfl (any_of HT_.out (by kernel_rfl)) (fun _ _ _ h => h) (Or.inl ⟨by rfl,?_⟩) ?_ ?_
        rotate_left
        ·intro w'
         go_simp
         with_reducible rfl
        rotate_left
        ·simp only [Act.put,sA,sZ,sS,i64_w,i32_w]
         rfl
        refine pure_ (i:=18) (N:=some 44) (v:=undef) (a':=?_) #[tt,tt,tt,tt,tt,tt,tt,tt,tt,tt,tt,tt,tt,tt,tt,tt,tt,tt,tt,ff,ff,ff,ff,ff] rfl rfl (any_of HT_.out (by kernel_rfl)) (fun _ _ _ h => h) (Or.inr ⟨by rfl,rfl⟩) ?_ ?_
        rotate_left
        ·simp only [Act.put,sA,sZ,sS,i64_w,i32_w]
         rfl
        refine pure_ (i:=19) (N:=some 45) (v:=undef) (a':=?_) #[tt,tt,tt,tt,tt,tt,tt,tt,tt,tt,tt,tt,tt,tt,tt,tt,tt,tt,tt,tt,ff,ff,ff,ff] rfl rfl (any_of HT_.out (by kernel_rfl)) (fun _ _ _ h => h) (Or.inr ⟨by rfl,rfl⟩) ?_ ?_
        rotate_left
        ·simp only [Act.put,sA,sZ,sS,i64_w,i32_w]
         rfl
        refine pure_ (i:=20) (N:=some 46) (v:=undef) (a':=?_) #[tt,tt,tt,tt,tt,tt,tt,tt,tt,tt,tt,tt,tt,tt,tt,tt,tt,tt,tt,tt,tt,ff,ff,ff] rfl rfl (any_of HT_.out (by kernel_rfl)) (fun _ _ _ h => h) (Or.inr ⟨by rfl,rfl⟩) ?_ ?_
        rotate_left
        ·simp only [Act.put,sA,sZ,sS,i64_w,i32_w]
         rfl
        refine pure_ (i:=21) (N:=some 47) (v:=undef) (a':=?_) #[tt,tt,tt,tt,tt,tt,tt,tt,tt,tt,tt,tt,tt,tt,tt,tt,tt,tt,tt,tt,tt,tt,ff,ff] rfl rfl (any_of HT_.out (by kernel_rfl)) (fun _ _ _ h => h) (Or.inr ⟨by rfl,rfl⟩) ?_ ?_
        rotate_left
        ·simp only [Act.put,sA,sZ,sS,i64_w,i32_w]
         rfl
        refine pure_ (i:=22) (N:=some 48) (v:=undef) (a':=?_) #[tt,tt,tt,tt,tt,tt,tt,tt,tt,tt,tt,tt,tt,tt,tt,tt,tt,tt,tt,tt,tt,tt,tt,ff] rfl rfl (any_of HT_.out (by kernel_rfl)) (fun _ _ _ h => h) (Or.inr ⟨by rfl,rfl⟩) ?_ ?_
        rotate_left
        ·simp only [Act.put,sA,sZ,sS,i64_w,i32_w]
         rfl
        refine pure_ (i:=23) (N:=some 49) (v:=?_) (a':=?_) #[tt,tt,tt,tt,tt,tt,tt,tt,tt,tt,tt,tt,tt,tt,tt,tt,tt,tt,tt,tt,tt,tt,tt,tt] rfl rfl (any_of HT_.out (by kernel_rfl)) (fun _ _ _ h => h) (Or.inl ⟨by rfl,?_⟩) ?_ ?_
        rotate_left
        ·intro w'
         go_simp
         with_reducible rfl
        rotate_left
        ·simp only [Act.put,sA,sZ,sS,i64_w,i32_w]
         rfl
        refine done_ (done_of HT_.out (by kernel_rfl)) ?_
        try go_wp2
        go_meet
        case rel => exact ⟨_,(true),(by first|rfl|(simp;done)|(simp [*];done)),H',⟨by have:=HJ6.out;first|omega|exact Nat.le_refl _⟩,⟨by (with_reducible repeat (first|refine kN ?_ _|refine kD ?_|refine kA ?_ _));exact BK338.out⟩,⟨by (with_reducible repeat (first|refine kN ?_ _|refine kD ?_|refine kA ?_ _));exact BK339.out⟩,⟨by (with_reducible repeat (first|refine kN ?_ _|refine kD ?_|refine kA ?_ _));exact BK340.out⟩,⟨by (with_reducible repeat (first|refine kN ?_ _|refine kD ?_|refine kA ?_ _));exact BK346.out⟩,⟨by repeat (first|(with_reducible first|exact HB.out|apply bA|apply bN|apply bD|refine bS ?_ GE338.out|refine bS ?_ GE339.out|refine bS ?_ GE340.out|refine bS ?_ GE346.out)|exact HB.out)⟩⟩
      ·replace c47:=Bool.eq_false_iff.mpr c47
       subst c47
       have H1 : (gazetteerlaw09_KeyUnion.j1 kj6 true a0_0 a0_1 a0_2 a0_3 a1_0 a1_1 a1_2 a1_3 a2_0 a2_1 a2_2 a2_3 t342 t343 t344 t345) = some r:=by rw [if_neg (show ¬ (false = true) by decide)] at H;exact H
       clear H
       have H:=H1
       clear H1
       have H':=Ak H
       clear H
       try go_wp2
       have n0_:=Ak (kD BK338.out)
       have n1_:=Ak (kD BK339.out)
       have n2_:=Ak (kD BK340.out)
       have n3_:=Ak (kD BK346.out)
       have n4_:=Ak (bD HB.out)
       clear BK338 BK339 BK340 BK346 HB
       have BK338:=n0_;have BK339:=n1_;have BK340:=n2_;have BK346:=n3_;have HB:=n4_
       clear n0_ n1_ n2_ n3_ n4_
       refine start_ (n:=24) (S:=fun w' => w'.cell? ⟨gb346,0,none⟩ = some (.int .i64 t342)∧w'.cell? ⟨gb346,1,none⟩ = some (.int .i64 t343)∧w'.cell? ⟨gb346,2,none⟩ = some (.int .i64 t344)∧w'.cell? ⟨gb346,3,none⟩ = some (.int .i64 t345)∧w'.cell? ⟨gb338,0,none⟩ = some (.int .i64 a0_0)∧w'.cell? ⟨gb338,1,none⟩ = some (.int .i64 a0_1)∧w'.cell? ⟨gb338,2,none⟩ = some (.int .i64 a0_2)∧w'.cell? ⟨gb338,3,none⟩ = some (.int .i64 a0_3)) (ds:=[]) #[ff,ff,ff,ff,ff,ff,ff,ff,ff,ff,ff,ff,ff,ff,ff,ff,ff,ff,ff,ff,ff,ff,ff,ff] (by kernel_rfl) rfl rfl ⟨(kC BK346.out 0).trans rfl,(kC BK346.out 1).trans rfl,(kC BK346.out 2).trans rfl,(kC BK346.out 3).trans rfl,(kC BK338.out 0).trans rfl,(kC BK338.out 1).trans rfl,(kC BK338.out 2).trans rfl,(kC BK338.out 3).trans rfl⟩ (fun hHeld => ?_);refine with_tabW gazetteerlaw09_KeyUnion.tab6 gazetteerlaw09_KeyUnion.bits6 (fun HT_ HW_ => ?_)
       generalize wc.drew = w65 at BK338 BK339 BK340 BK346 HB hHeld ⊢
       refine take_ (i:=0) (N:=some 26) (v:=?_) (a':=?_) #[tt,ff,ff,ff,ff,ff,ff,ff,ff,ff,ff,ff,ff,ff,ff,ff,ff,ff,ff,ff,ff,ff,ff,ff] rfl rfl (take_ofW HT_.out HW_.out (by kernel_rfl)) (fun _ _ _ h => h) (Or.inl ⟨by rfl,?_⟩) hHeld ?_ ?_
       rotate_left
       ·rintro w' ⟨s0,s1,s2,s3,s4,s5,s6,s7⟩
        go_simp
        with_reducible rfl
       rotate_left
       ·simp only [Act.put,sA,sZ,sS,i64_w,i32_w]
        rfl
       refine take_ (i:=1) (N:=some 27) (v:=?_) (a':=?_) #[tt,tt,ff,ff,ff,ff,ff,ff,ff,ff,ff,ff,ff,ff,ff,ff,ff,ff,ff,ff,ff,ff,ff,ff] rfl rfl (take_ofW HT_.out HW_.out (by kernel_rfl)) (fun _ _ _ h => h) (Or.inl ⟨by rfl,?_⟩) hHeld ?_ ?_
       rotate_left
       ·rintro w' ⟨s0,s1,s2,s3,s4,s5,s6,s7⟩
        go_simp
        with_reducible rfl
       rotate_left
       ·simp only [Act.put,sA,sZ,sS,i64_w,i32_w]
        rfl
       refine one_ (i:=2) (N:=some 28) #[tt,tt,tt,ff,ff,ff,ff,ff,ff,ff,ff,ff,ff,ff,ff,ff,ff,ff,ff,ff,ff,ff,ff,ff] rfl rfl (one_of HT_.out (by kernel_rfl)) (by decide) (fun K hK => ?_)
       refine goes_ Try.func35 (by kernel_rfl) rfl #[.agg #[.int .i64 t342,.int .i64 t343,.int .i64 t344,.int .i64 t345],.agg #[.int .i64 a0_0,.int .i64 a0_1,.int .i64 a0_2,.int .i64 a0_3]] (by rfl) rfl rfl (by (try simp only [List.map_toArray,List.map_cons,List.map_nil]);first|done|rfl|(simp only [List.length_drop,List.length_take];rfl)) ?_
       with_reducible refine (key_Covers.calls t342 t343 t344 t345 a0_0 a0_1 a0_2 a0_3 false _ A46.out).mono ?_
       rintro e w66 ⟨rfl,hb⟩
       refine ⟨_,rfl,?_⟩
       have n0_:=Kb BK338 hb
       have n1_:=Kb BK339 hb
       have n2_:=Kb BK340 hb
       have n3_:=Kb BK346 hb
       have n4_:=Kh HB hb
       clear BK338 BK339 BK340 BK346 HB
       have BK338:=n0_;have BK339:=n1_;have BK340:=n2_;have BK346:=n3_;have HB:=n4_
       clear n0_ n1_ n2_ n3_ n4_
       (try clear hb)
       (try clear hb2)
       (try clear hk)
       (try clear hi)
       refine hK.out _ _ ⟨(kC BK346.out 0).trans rfl,(kC BK346.out 1).trans rfl,(kC BK346.out 2).trans rfl,(kC BK346.out 3).trans rfl,(kC BK338.out 0).trans rfl,(kC BK338.out 1).trans rfl,(kC BK338.out 2).trans rfl,(kC BK338.out 3).trans rfl⟩ (fun hHeld => ?_)
       clear hK K
       refine norm_ (a':=?_) ?_ ?_
       rotate_left
       ·show Act.put _ (some 28) _ = _
        simp only [Act.put,sA,sZ,sS,i64_w,i32_w]
        rfl
       refine pure_ (i:=3) (N:=some 29) (v:=?_) (a':=?_) #[tt,tt,tt,tt,ff,ff,ff,ff,ff,ff,ff,ff,ff,ff,ff,ff,ff,ff,ff,ff,ff,ff,ff,ff] rfl rfl (any_of HT_.out (by kernel_rfl)) (fun _ _ _ h => h) (Or.inl ⟨by rfl,?_⟩) ?_ ?_
       rotate_left
       ·intro w'
        go_simp
        with_reducible rfl
       rotate_left
       ·simp only [Act.put,sA,sZ,sS,i64_w,i32_w]
        rfl
       refine pure_ (i:=4) (N:=some 30) (v:=?_) (a':=?_) #[tt,tt,tt,tt,tt,ff,ff,ff,ff,ff,ff,ff,ff,ff,ff,ff,ff,ff,ff,ff,ff,ff,ff,ff] rfl rfl (any_of HT_.out (by kernel_rfl)) (fun _ _ _ h => h) (Or.inl ⟨by rfl,?_⟩) ?_ ?_
       rotate_left
       ·intro w'
        go_simp
        with_reducible rfl
       rotate_left
       ·simp only [Act.put,sA,sZ,sS,i64_w,i32_w]
        rfl
       refine pure_ (i:=5) (N:=some 31) (v:=undef) (a':=?_) #[tt,tt,tt,tt,tt,tt,ff,ff,ff,ff,ff,ff,ff,ff,ff,ff,ff,ff,ff,ff,ff,ff,ff,ff] rfl rfl (any_of HT_.out (by kernel_rfl)) (fun _ _ _ h => h) (Or.inr ⟨by rfl,rfl⟩) ?_ ?_
       rotate_left
       ·simp only [Act.put,sA,sZ,sS,i64_w,i32_w]
        rfl
       refine pure_ (i:=6) (N:=some 32) (v:=undef) (a':=?_) #[tt,tt,tt,tt,tt,tt,tt,ff,ff,ff,ff,ff,ff,ff,ff,ff,ff,ff,ff,ff,ff,ff,ff,ff] rfl rfl (any_of HT_.out (by kernel_rfl)) (fun _ _ _ h => h) (Or.inr ⟨by rfl,rfl⟩) ?_ ?_
       rotate_left
       ·simp only [Act.put,sA,sZ,sS,i64_w,i32_w]
        rfl
       refine pure_ (i:=7) (N:=some 33) (v:=undef) (a':=?_) #[tt,tt,tt,tt,tt,tt,tt,tt,ff,ff,ff,ff,ff,ff,ff,ff,ff,ff,ff,ff,ff,ff,ff,ff] rfl rfl (any_of HT_.out (by kernel_rfl)) (fun _ _ _ h => h) (Or.inr ⟨by rfl,rfl⟩) ?_ ?_
       rotate_left
       ·simp only [Act.put,sA,sZ,sS,i64_w,i32_w]
        rfl
       refine pure_ (i:=8) (N:=some 34) (v:=undef) (a':=?_) #[tt,tt,tt,tt,tt,tt,tt,tt,tt,ff,ff,ff,ff,ff,ff,ff,ff,ff,ff,ff,ff,ff,ff,ff] rfl rfl (any_of HT_.out (by kernel_rfl)) (fun _ _ _ h => h) (Or.inr ⟨by rfl,rfl⟩) ?_ ?_
       rotate_left
       ·simp only [Act.put,sA,sZ,sS,i64_w,i32_w]
        rfl
       refine pure_ (i:=9) (N:=some 35) (v:=?_) (a':=?_) #[tt,tt,tt,tt,tt,tt,tt,tt,tt,tt,ff,ff,ff,ff,ff,ff,ff,ff,ff,ff,ff,ff,ff,ff] rfl rfl (any_of HT_.out (by kernel_rfl)) (fun _ _ _ h => h) (Or.inl ⟨by rfl,?_⟩) ?_ ?_
       rotate_left
       ·intro w'
        go_simp
        with_reducible rfl
       rotate_left
       ·simp only [Act.put,sA,sZ,sS,i64_w,i32_w]
        rfl
       refine pure_ (i:=10) (N:=some 36) (v:=?_) (a':=?_) #[tt,tt,tt,tt,tt,tt,tt,tt,tt,tt,tt,ff,ff,ff,ff,ff,ff,ff,ff,ff,ff,ff,ff,ff] rfl rfl (any_of HT_.out (by kernel_rfl)) (fun _ _ _ h => h) (Or.inl ⟨by rfl,?_⟩) ?_ ?_
       rotate_left
       ·intro w'
        go_simp
        with_reducible rfl
       rotate_left
       ·simp only [Act.put,sA,sZ,sS,i64_w,i32_w]
        rfl
       refine pure_ (i:=11) (N:=some 37) (v:=undef) (a':=?_) #[tt,tt,tt,tt,tt,tt,tt,tt,tt,tt,tt,tt,ff,ff,ff,ff,ff,ff,ff,ff,ff,ff,ff,ff] rfl rfl (any_of HT_.out (by kernel_rfl)) (fun _ _ _ h => h) (Or.inr ⟨by rfl,rfl⟩) ?_ ?_
       rotate_left
       ·simp only [Act.put,sA,sZ,sS,i64_w,i32_w]
        rfl
       refine pure_ (i:=12) (N:=some 38) (v:=undef) (a':=?_) #[tt,tt,tt,tt,tt,tt,tt,tt,tt,tt,tt,tt,tt,ff,ff,ff,ff,ff,ff,ff,ff,ff,ff,ff] rfl rfl (any_of HT_.out (by kernel_rfl)) (fun _ _ _ h => h) (Or.inr ⟨by rfl,rfl⟩) ?_ ?_
       rotate_left
       ·simp only [Act.put,sA,sZ,sS,i64_w,i32_w]
        rfl
       refine pure_ (i:=13) (N:=some 39) (v:=undef) (a':=?_) #[tt,tt,tt,tt,tt,tt,tt,tt,tt,tt,tt,tt,tt,tt,ff,ff,ff,ff,ff,ff,ff,ff,ff,ff] rfl rfl (any_of HT_.out (by kernel_rfl)) (fun _ _ _ h => h) (Or.inr ⟨by rfl,rfl⟩) ?_ ?_
       rotate_left
       ·simp only [Act.put,sA,sZ,sS,i64_w,i32_w]
        rfl
       refine pure_ (i:=14) (N:=some 40) (v:=undef) (a':=?_) #[tt,tt,tt,tt,tt,tt,tt,tt,tt,tt,tt,tt,tt,tt,tt,ff,ff,ff,ff,ff,ff,ff,ff,ff] rfl rfl (any_of HT_.out (by kernel_rfl)) (fun _ _ _ h => h) (Or.inr ⟨by rfl,rfl⟩) ?_ ?_
       rotate_left
       ·simp only [Act.put,sA,sZ,sS,i64_w,i32_w]
        rfl
       refine pure_ (i:=15) (N:=some 41) (v:=undef) (a':=?_) #[tt,tt,tt,tt,tt,tt,tt,tt,tt,tt,tt,tt,tt,tt,tt,tt,ff,ff,ff,ff,ff,ff,ff,ff] rfl rfl (any_of HT_.out (by kernel_rfl)) (fun _ _ _ h => h) (Or.inr ⟨by rfl,rfl⟩) ?_ ?_
       rotate_left
       ·simp only [Act.put,sA,sZ,sS,i64_w,i32_w]
        rfl
       refine pure_ (i:=16) (N:=some 42) (v:=?_) (a':=?_) #[tt,tt,tt,tt,tt,tt,tt,tt,tt,tt,tt,tt,tt,tt,tt,tt,tt,ff,ff,ff,ff,ff,ff,ff] rfl rfl (any_of HT_.out (by kernel_rfl)) (fun _ _ _ h => h) (Or.inl ⟨by rfl,?_⟩) ?_ ?_
       rotate_left
       ·intro w'
        go_simp
        with_reducible rfl
       rotate_left
       ·simp only [Act.put,sA,sZ,sS,i64_w,i32_w]
        rfl
       refine pure_ (i:=17) (N:=some 43) (v:=?_) (a':=?_) #[tt,tt,tt,tt,tt,tt,tt,tt,tt,tt,tt,tt,tt,tt,tt,tt,tt,tt,ff,ff,ff,ff,ff,ff] rfl rfl (any_of HT_.out (by kernel_rfl)) (fun _ _ _ h => h) (Or.inl ⟨by rfl,?_⟩) ?_ ?_
       rotate_left
       ·intro w'
        go_simp
        with_reducible rfl
       rotate_left
       ·simp only [Act.put,sA,sZ,sS,i64_w,i32_w]
        rfl
       refine pure_ (i:=18) (N:=some 44) (v:=undef) (a':=?_) #[tt,tt,tt,tt,tt,tt,tt,tt,tt,tt,tt,tt,tt,tt,tt,tt,tt,tt,tt,ff,ff,ff,ff,ff] rfl rfl (any_of HT_.out (by kernel_rfl)) (fun _ _ _ h => h) (Or.inr ⟨by rfl,rfl⟩) ?_ ?_
       rotate_left
       ·simp only [Act.put,sA,sZ,sS,i64_w,i32_w]
        rfl
       refine pure_ (i:=19) (N:=some 45) (v:=undef) (a':=?_) #[tt,tt,tt,tt,tt,tt,tt,tt,tt,tt,tt,tt,tt,tt,tt,tt,tt,tt,tt,tt,ff,ff,ff,ff] rfl rfl (any_of HT_.out (by kernel_rfl)) (fun _ _ _ h => h) (Or.inr ⟨by rfl,rfl⟩) ?_ ?_
       rotate_left
       ·simp only [Act.put,sA,sZ,sS,i64_w,i32_w]
        rfl
       refine pure_ (i:=20) (N:=some 46) (v:=undef) (a':=?_) #[tt,tt,tt,tt,tt,tt,tt,tt,tt,tt,tt,tt,tt,tt,tt,tt,tt,tt,tt,tt,tt,ff,ff,ff] rfl rfl (any_of HT_.out (by kernel_rfl)) (fun _ _ _ h => h) (Or.inr ⟨by rfl,rfl⟩) ?_ ?_
       rotate_left
       ·simp only [Act.put,sA,sZ,sS,i64_w,i32_w]
        rfl
       refine pure_ (i:=21) (N:=some 47) (v:=undef) (a':=?_) #[tt,tt,tt,tt,tt,tt,tt,tt,tt,tt,tt,tt,tt,tt,tt,tt,tt,tt,tt,tt,tt,tt,ff,ff] rfl rfl (any_of HT_.out (by kernel_rfl)) (fun _ _ _ h => h) (Or.inr ⟨by rfl,rfl⟩) ?_ ?_
       rotate_left
       ·simp only [Act.put,sA,sZ,sS,i64_w,i32_w]
        rfl
       refine pure_ (i:=22) (N:=some 48) (v:=undef) (a':=?_) #[tt,tt,tt,tt,tt,tt,tt,tt,tt,tt,tt,tt,tt,tt,tt,tt,tt,tt,tt,tt,tt,tt,tt,ff] rfl rfl (any_of HT_.out (by kernel_rfl)) (fun _ _ _ h => h) (Or.inr ⟨by rfl,rfl⟩) ?_ ?_
       rotate_left
       ·simp only [Act.put,sA,sZ,sS,i64_w,i32_w]
        rfl
       refine pure_ (i:=23) (N:=some 49) (v:=?_) (a':=?_) #[tt,tt,tt,tt,tt,tt,tt,tt,tt,tt,tt,tt,tt,tt,tt,tt,tt,tt,tt,tt,tt,tt,tt,tt] rfl rfl (any_of HT_.out (by kernel_rfl)) (fun _ _ _ h => h) (Or.inl ⟨by rfl,?_⟩) ?_ ?_
       rotate_left
       ·intro w'
        go_simp
        with_reducible rfl
       rotate_left
       ·simp only [Act.put,sA,sZ,sS,i64_w,i32_w]
        rfl
       refine done_ (done_of HT_.out (by kernel_rfl)) ?_
       try go_wp2
       go_meet
       case rel => exact ⟨_,(true),(by first|rfl|(simp;done)|(simp [*];done)),H',⟨by have:=HJ6.out;first|omega|exact Nat.le_refl _⟩,⟨by (with_reducible repeat (first|refine kN ?_ _|refine kD ?_|refine kA ?_ _));exact BK338.out⟩,⟨by (with_reducible repeat (first|refine kN ?_ _|refine kD ?_|refine kA ?_ _));exact BK339.out⟩,⟨by (with_reducible repeat (first|refine kN ?_ _|refine kD ?_|refine kA ?_ _));exact BK340.out⟩,⟨by (with_reducible repeat (first|refine kN ?_ _|refine kD ?_|refine kA ?_ _));exact BK346.out⟩,⟨by repeat (first|(with_reducible first|exact HB.out|apply bA|apply bN|apply bD|refine bS ?_ GE338.out|refine bS ?_ GE339.out|refine bS ?_ GE340.out|refine bS ?_ GE346.out)|exact HB.out)⟩⟩
     case rest =>
      clear HC45
      try clear p2
      try clear c3
      try clear c4
      try clear c35
      try clear c40
      try clear c47
      try clear c49
      obtain ⟨kq,x49_44,rfl,HA,HJ44,BK338,BK339,BK340,BK346,HB⟩:=hcut
      cases kq with
      | zero => exact absurd HA.out (by simp [gazetteerlaw09_KeyUnion.j1])
      | succ kj44 =>
       have H:=HA.out
       clear HA
       simp only [gazetteerlaw09_KeyUnion.j1] at H
       by_cases c67 : x49_44 = true
       ·subst c67
        have H1 : (some false) = some r:=by rw [if_pos rfl] at H;exact H
        clear H
        have H:=H1
        clear H1
        obtain rfl:=Option.some.inj H
        go_wp2
        go_ret
        exact ⟨by first|rfl|(simp [errW_none,errW_some] <;> rfl)|(simp [*,errW_none,errW_some] <;> rfl),by repeat (first|(with_reducible first|exact HB.out|apply bA|apply bN|apply bD|refine bS ?_ GE338.out|refine bS ?_ GE339.out|refine bS ?_ GE340.out|refine bS ?_ GE346.out)|exact HB.out)⟩
       ·replace c67:=Bool.eq_false_iff.mpr c67
        subst c67
        have H1 : ((key_Covers.f a2_0 a2_1 a2_2 a2_3 a0_0 a0_1 a0_2 a0_3).bind fun t359 => (if t359 = true then ((key_Covers.f a2_0 a2_1 a2_2 a2_3 a1_0 a1_1 a1_2 a1_3).bind fun t360 => (if t360 = true then ((key_Covers.f a2_0 a2_1 a2_2 a2_3 t342 t343 t344 t345).bind fun t361 => (if t361 = true then ((key_Grows.f t342 t343 t344 t345 a0_0 a0_1 a0_2 a0_3).bind fun bt362 => (if (bt362.1 == 0 && (bt362.2.1 == 0)) = true then (some (bt362.2.2.1 == 0 && (bt362.2.2.2 == 0))) else (some false))) else (some false))) else ((key_Grows.f t342 t343 t344 t345 a0_0 a0_1 a0_2 a0_3).bind fun bt368 => (if (bt368.1 == 0 && (bt368.2.1 == 0)) = true then (some (bt368.2.2.1 == 0 && (bt368.2.2.2 == 0))) else (some false))))) else ((key_Grows.f t342 t343 t344 t345 a0_0 a0_1 a0_2 a0_3).bind fun bt374 => (if (bt374.1 == 0 && (bt374.2.1 == 0)) = true then (some (bt374.2.2.1 == 0 && (bt374.2.2.2 == 0))) else (some false))))) = some r:=by rw [if_neg (show ¬ (false = true) by decide)] at H;exact H
        clear H
        have H:=H1
        clear H1
        replace H:=Option.bind_eq_some_iff.mp H
        obtain ⟨t359,A680,H⟩:=H
        replace H : (if t359 = true then ((key_Covers.f a2_0 a2_1 a2_2 a2_3 a1_0 a1_1 a1_2 a1_3).bind fun t360 => (if t360 = true then ((key_Covers.f a2_0 a2_1 a2_2 a2_3 t342 t343 t344 t345).bind fun t361 => (if t361 = true then ((key_Grows.f t342 t343 t344 t345 a0_0 a0_1 a0_2 a0_3).bind fun bt362 => (if (bt362.1 == 0 && (bt362.2.1 == 0)) = true then (some (bt362.2.2.1 == 0 && (bt362.2.2.2 == 0))) else (some false))) else (some false))) else ((key_Grows.f t342 t343 t344 t345 a0_0 a0_1 a0_2 a0_3).bind fun bt368 => (if (bt368.1 == 0 && (bt368.2.1 == 0)) = true then (some (bt368.2.2.1 == 0 && (bt368.2.2.2 == 0))) else (some false))))) else ((key_Grows.f t342 t343 t344 t345 a0_0 a0_1 a0_2 a0_3).bind fun bt374 => (if (bt374.1 == 0 && (bt374.2.1 == 0)) = true then (some (bt374.2.2.1 == 0 && (bt374.2.2.2 == 0))) else (some false)))) = some r:=H
        have A68:=Ak A680
        clear A680
        by_cases c69 : t359 = true
        ·subst c69
         have H1 : ((key_Covers.f a2_0 a2_1 a2_2 a2_3 a1_0 a1_1 a1_2 a1_3).bind fun t360 => (if t360 = true then ((key_Covers.f a2_0 a2_1 a2_2 a2_3 t342 t343 t344 t345).bind fun t361 => (if t361 = true then ((key_Grows.f t342 t343 t344 t345 a0_0 a0_1 a0_2 a0_3).bind fun bt362 => (if (bt362.1 == 0 && (bt362.2.1 == 0)) = true then (some (bt362.2.2.1 == 0 && (bt362.2.2.2 == 0))) else (some false))) else (some false))) else ((key_Grows.f t342 t343 t344 t345 a0_0 a0_1 a0_2 a0_3).bind fun bt368 => (if (bt368.1 == 0 && (bt368.2.1 == 0)) = true then (some (bt368.2.2.1 == 0 && (bt368.2.2.2 == 0))) else (some false))))) = some r:=by rw [if_pos rfl] at H;exact H
         clear H
         have H:=H1
         clear H1
         replace H:=Option.bind_eq_some_iff.mp H
         obtain ⟨t360,A700,H⟩:=H
         replace H : (if t360 = true then ((key_Covers.f a2_0 a2_1 a2_2 a2_3 t342 t343 t344 t345).bind fun t361 => (if t361 = true then ((key_Grows.f t342 t343 t344 t345 a0_0 a0_1 a0_2 a0_3).bind fun bt362 => (if (bt362.1 == 0 && (bt362.2.1 == 0)) = true then (some (bt362.2.2.1 == 0 && (bt362.2.2.2 == 0))) else (some false))) else (some false))) else ((key_Grows.f t342 t343 t344 t345 a0_0 a0_1 a0_2 a0_3).bind fun bt368 => (if (bt368.1 == 0 && (bt368.2.1 == 0)) = true then (some (bt368.2.2.1 == 0 && (bt368.2.2.2 == 0))) else (some false)))) = some r:=H
         have A70:=Ak A700
         clear A700
         by_cases c71 : t360 = true
         ·subst c71
          have H1 : ((key_Covers.f a2_0 a2_1 a2_2 a2_3 t342 t343 t344 t345).bind fun t361 => (if t361 = true then ((key_Grows.f t342 t343 t344 t345 a0_0 a0_1 a0_2 a0_3).bind fun bt362 => (if (bt362.1 == 0 && (bt362.2.1 == 0)) = true then (some (bt362.2.2.1 == 0 && (bt362.2.2.2 == 0))) else (some false))) else (some false))) = some r:=by rw [if_pos rfl] at H;exact H
          clear H
          have H:=H1
          clear H1
          replace H:=Option.bind_eq_some_iff.mp H
          obtain ⟨t361,A720,H⟩:=H
          replace H : (if t361 = true then ((key_Grows.f t342 t343 t344 t345 a0_0 a0_1 a0_2 a0_3).bind fun bt362 => (if (bt362.1 == 0 && (bt362.2.1 == 0)) = true then (some (bt362.2.2.1 == 0 && (bt362.2.2.2 == 0))) else (some false))) else (some false)) = some r:=H
          have A72:=Ak A720
          clear A720
          by_cases c73 : t361 = true
          ·subst c73
           have H1 : ((key_Grows.f t342 t343 t344 t345 a0_0 a0_1 a0_2 a0_3).bind fun bt362 => (if (bt362.1 == 0 && (bt362.2.1 == 0)) = true then (some (bt362.2.2.1 == 0 && (bt362.2.2.2 == 0))) else (some false))) = some r:=by rw [if_pos rfl] at H;exact H
           clear H
           have H:=H1
           clear H1
           replace H:=Option.bind_eq_some_iff.mp H
           obtain ⟨⟨t362,t363,t364,t365⟩,A740,H⟩:=H
           replace H : (if (t362 == 0 && (t363 == 0)) = true then (some (t364 == 0 && (t365 == 0))) else (some false)) = some r:=H
           have A74:=Ak A740
           clear A740
           by_cases c75 : (t362 == 0 && (t363 == 0)) = true
           ·rw [if_pos c75] at H
            have c75b0 : (t362 == 0 && (t363 == 0)) = true:=c75
            (try (have c75b1 : decide (t362 = 0 && (t363 == 0)) = true:=by simpa using c75))
            (try (have c75b2 : (t362 == 0 && (t363 == 0)) = true:=by simpa using c75))
            clear c75
            obtain rfl:=Option.some.inj H
            have hnb76:=NB340_338.out
            have hnc76:=NB338_340.out
            have hnb77:=NB340_339.out
            have hnc77:=NB339_340.out
            have hnb78:=NB340_346.out
            have hnc78:=NB346_340.out
            have hcz79_0 : wc.cell? ⟨gb340,0,none⟩ = some (.int .i64 a2_0):=(kC BK340.out 0).trans rfl
            have hcz79_1 : wc.cell? ⟨gb340,1,none⟩ = some (.int .i64 a2_1):=(kC BK340.out 1).trans rfl
            have hcz79_2 : wc.cell? ⟨gb340,2,none⟩ = some (.int .i64 a2_2):=(kC BK340.out 2).trans rfl
            have hcz79_3 : wc.cell? ⟨gb340,3,none⟩ = some (.int .i64 a2_3):=(kC BK340.out 3).trans rfl
            have hfz79_0:=blk_frozen BK340.out 0
            have hfz79_1:=blk_frozen BK340.out 1
            have hfz79_2:=blk_frozen BK340.out 2
            have hfz79_3:=blk_frozen BK340.out 3
            have hnb80:=NB338_339.out
            have hnc80:=NB339_338.out
            have hnb81:=NB338_346.out
            have hnc81:=NB346_338.out
            have hcz82_0 : wc.cell? ⟨gb338,0,none⟩ = some (.int .i64 a0_0):=(kC BK338.out 0).trans rfl
            have hcz82_1 : wc.cell? ⟨gb338,1,none⟩ = some (.int .i64 a0_1):=(kC BK338.out 1).trans rfl
            have hcz82_2 : wc.cell? ⟨gb338,2,none⟩ = some (.int .i64 a0_2):=(kC BK338.out 2).trans rfl
            have hcz82_3 : wc.cell? ⟨gb338,3,none⟩ = some (.int .i64 a0_3):=(kC BK338.out 3).trans rfl
            have hfz82_0:=blk_frozen BK338.out 0
            have hfz82_1:=blk_frozen BK338.out 1
            have hfz82_2:=blk_frozen BK338.out 2
            have hfz82_3:=blk_frozen BK338.out 3
            go_wp2_with (first|((with_reducible refine gate_callee (f:=35) rfl ?_);refine goesL_ (some 52) rfl rfl Try.func35 (by kernel_rfl) rfl #[.agg #[.int .i64 a2_0,.int .i64 a2_1,.int .i64 a2_2,.int .i64 a2_3],.agg #[.int .i64 a0_0,.int .i64 a0_1,.int .i64 a0_2,.int .i64 a0_3]] rfl (by (try simp only [List.map_toArray,List.map_cons,List.map_nil]);first|done|rfl|(simp only [List.length_drop,List.length_take];rfl)) ?_;(with_reducible refine (key_Covers.calls a2_0 a2_1 a2_2 a2_3 a0_0 a0_1 a0_2 a0_3 true _ A68.out).mono ?_);rintro e w83 ⟨rfl,hb⟩;refine ⟨_,rfl,?_⟩;have n0_:=Kb BK338 hb;have n1_:=Kb BK339 hb;have n2_:=Kb BK340 hb;have n3_:=Kb BK346 hb;have n4_:=Kh HB hb;clear BK338;clear BK339;clear BK340;clear BK346;clear HB;have BK338:=n0_;have BK339:=n1_;have BK340:=n2_;have BK346:=n3_;have HB:=n4_;clear n0_ n1_ n2_ n3_ n4_;(try clear hb);(try clear hb2);(try clear hk);(try clear hi);have hcz84_0 : w83.cell? ⟨gb340,0,none⟩ = some (.int .i64 a2_0):=(kC BK340.out 0).trans rfl;have hcz84_1 : w83.cell? ⟨gb340,1,none⟩ = some (.int .i64 a2_1):=(kC BK340.out 1).trans rfl;have hcz84_2 : w83.cell? ⟨gb340,2,none⟩ = some (.int .i64 a2_2):=(kC BK340.out 2).trans rfl;have hcz84_3 : w83.cell? ⟨gb340,3,none⟩ = some (.int .i64 a2_3):=(kC BK340.out 3).trans rfl;have hfz84_0:=blk_frozen BK340.out 0;have hfz84_1:=blk_frozen BK340.out 1;have hfz84_2:=blk_frozen BK340.out 2;have hfz84_3:=blk_frozen BK340.out 3;have hnb85:=NB339_346.out;have hnc85:=NB346_339.out;have hcz86_0 : w83.cell? ⟨gb339,0,none⟩ = some (.int .i64 a1_0):=(kC BK339.out 0).trans rfl;have hcz86_1 : w83.cell? ⟨gb339,1,none⟩ = some (.int .i64 a1_1):=(kC BK339.out 1).trans rfl;have hcz86_2 : w83.cell? ⟨gb339,2,none⟩ = some (.int .i64 a1_2):=(kC BK339.out 2).trans rfl;have hcz86_3 : w83.cell? ⟨gb339,3,none⟩ = some (.int .i64 a1_3):=(kC BK339.out 3).trans rfl;have hfz86_0:=blk_frozen BK339.out 0;have hfz86_1:=blk_frozen BK339.out 1;have hfz86_2:=blk_frozen BK339.out 2;have hfz86_3:=blk_frozen BK339.out 3)|(go_at_call 35;(with_reducible refine (key_Covers.calls a2_0 a2_1 a2_2 a2_3 a1_0 a1_1 a1_2 a1_3 true _ A70.out).mono ?_);rintro e w87 ⟨rfl,hb⟩;have n0_:=Kb BK338 hb;have n1_:=Kb BK339 hb;have n2_:=Kb BK340 hb;have n3_:=Kb BK346 hb;have n4_:=Kh HB hb;clear BK338;clear BK339;clear BK340;clear BK346;clear HB;have BK338:=n0_;have BK339:=n1_;have BK340:=n2_;have BK346:=n3_;have HB:=n4_;clear n0_ n1_ n2_ n3_ n4_;(try clear hb);(try clear hb2);(try clear hk);(try clear hi);have hcz88_0 : w87.cell? ⟨gb340,0,none⟩ = some (.int .i64 a2_0):=(kC BK340.out 0).trans rfl;have hcz88_1 : w87.cell? ⟨gb340,1,none⟩ = some (.int .i64 a2_1):=(kC BK340.out 1).trans rfl;have hcz88_2 : w87.cell? ⟨gb340,2,none⟩ = some (.int .i64 a2_2):=(kC BK340.out 2).trans rfl;have hcz88_3 : w87.cell? ⟨gb340,3,none⟩ = some (.int .i64 a2_3):=(kC BK340.out 3).trans rfl;have hfz88_0:=blk_frozen BK340.out 0;have hfz88_1:=blk_frozen BK340.out 1;have hfz88_2:=blk_frozen BK340.out 2;have hfz88_3:=blk_frozen BK340.out 3;have hcz89_0 : w87.cell? ⟨gb346,0,none⟩ = some (.int .i64 t342):=(kC BK346.out 0).trans rfl;have hcz89_1 : w87.cell? ⟨gb346,1,none⟩ = some (.int .i64 t343):=(kC BK346.out 1).trans rfl;have hcz89_2 : w87.cell? ⟨gb346,2,none⟩ = some (.int .i64 t344):=(kC BK346.out 2).trans rfl;have hcz89_3 : w87.cell? ⟨gb346,3,none⟩ = some (.int .i64 t345):=(kC BK346.out 3).trans rfl;have hfz89_0:=blk_frozen BK346.out 0;have hfz89_1:=blk_frozen BK346.out 1;have hfz89_2:=blk_frozen BK346.out 2;have hfz89_3:=blk_frozen BK346.out 3)|(go_at_call 35;(with_reducible refine (key_Covers.calls a2_0 a2_1 a2_2 a2_3 t342 t343 t344 t345 true _ A72.out).mono ?_);rintro e w90 ⟨rfl,hb⟩;have n0_:=Kb BK338 hb;have n1_:=Kb BK339 hb;have n2_:=Kb BK340 hb;have n3_:=Kb BK346 hb;have n4_:=Kh HB hb;clear BK338;clear BK339;clear BK340;clear BK346;clear HB;have BK338:=n0_;have BK339:=n1_;have BK340:=n2_;have BK346:=n3_;have HB:=n4_;clear n0_ n1_ n2_ n3_ n4_;(try clear hb);(try clear hb2);(try clear hk);(try clear hi);have hcz91_0 : w90.cell? ⟨gb346,0,none⟩ = some (.int .i64 t342):=(kC BK346.out 0).trans rfl;have hcz91_1 : w90.cell? ⟨gb346,1,none⟩ = some (.int .i64 t343):=(kC BK346.out 1).trans rfl;have hcz91_2 : w90.cell? ⟨gb346,2,none⟩ = some (.int .i64 t344):=(kC BK346.out 2).trans rfl;have hcz91_3 : w90.cell? ⟨gb346,3,none⟩ = some (.int .i64 t345):=(kC BK346.out 3).trans rfl;have hfz91_0:=blk_frozen BK346.out 0;have hfz91_1:=blk_frozen BK346.out 1;have hfz91_2:=blk_frozen BK346.out 2;have hfz91_3:=blk_frozen BK346.out 3;have hcz92_0 : w90.cell? ⟨gb338,0,none⟩ = some (.int .i64 a0_0):=(kC BK338.out 0).trans rfl;have hcz92_1 : w90.cell? ⟨gb338,1,none⟩ = some (.int .i64 a0_1):=(kC BK338.out 1).trans rfl;have hcz92_2 : w90.cell? ⟨gb338,2,none⟩ = some (.int .i64 a0_2):=(kC BK338.out 2).trans rfl;have hcz92_3 : w90.cell? ⟨gb338,3,none⟩ = some (.int .i64 a0_3):=(kC BK338.out 3).trans rfl;have hfz92_0:=blk_frozen BK338.out 0;have hfz92_1:=blk_frozen BK338.out 1;have hfz92_2:=blk_frozen BK338.out 2;have hfz92_3:=blk_frozen BK338.out 3)|((with_reducible refine gate_callee (f:=36) rfl ?_);refine goesL_ (some 67) rfl rfl Try.func36 (by kernel_rfl) rfl #[.agg #[.int .i64 t342,.int .i64 t343,.int .i64 t344,.int .i64 t345],.agg #[.int .i64 a0_0,.int .i64 a0_1,.int .i64 a0_2,.int .i64 a0_3]] rfl (by (try simp only [List.map_toArray,List.map_cons,List.map_nil]);first|done|rfl|(simp only [List.length_drop,List.length_take];rfl)) ?_;(with_reducible refine (key_Grows.calls t342 t343 t344 t345 a0_0 a0_1 a0_2 a0_3 t362 t363 t364 t365 _ A74.out).mono ?_);rintro e w93 ⟨rfl,hb⟩;refine ⟨_,rfl,?_⟩;have n0_:=Kb BK338 hb;have n1_:=Kb BK339 hb;have n2_:=Kb BK340 hb;have n3_:=Kb BK346 hb;have n4_:=Kh HB hb;clear BK338;clear BK339;clear BK340;clear BK346;clear HB;have BK338:=n0_;have BK339:=n1_;have BK340:=n2_;have BK346:=n3_;have HB:=n4_;clear n0_ n1_ n2_ n3_ n4_;(try clear hb);(try clear hb2);(try clear hk);(try clear hi))|((with_reducible refine gate_dst (N:=8) rfl ?_);refine box_event ?hg (N:=8) ?hd (cs:=#[.int .u64 0,.int .u64 0]) (t:=25) ?hr ?_;(case hd => rfl);(case hg => rfl);(case hr => first|(go_simp;done)|(go_simp;rfl));intro gb366 hg w94 hbox hb;have n0_:=Kb BK338 hb;have n1_:=Kb BK339 hb;have n2_:=Kb BK340 hb;have n3_:=Kb BK346 hb;have n4_:=Kh HB hb;have n5_:=Ak (hbox);have n6_:=Ak ((by rw [hg];exact (below_size HB.out) : w.heap.size ≤ gb366));have n7_:=Ak ((by rw [hg];exact (below_size HB.out) : w.heap.size ≤ gb366));have n8_:=Ak ((by rw [hg];exact Nat.ne_of_lt (blk_lt (g:=gb338) (o:=.cells #[.int .i64 a0_0,.int .i64 a0_1,.int .i64 a0_2,.int .i64 a0_3] 35 (0,0)) BK338.out) : gb338 ≠ gb366));have n9_:=Ak ((by rw [hg];exact Nat.ne_of_gt (blk_lt (g:=gb338) (o:=.cells #[.int .i64 a0_0,.int .i64 a0_1,.int .i64 a0_2,.int .i64 a0_3] 35 (0,0)) BK338.out) : gb366 ≠ gb338));have n10_:=Ak ((by rw [hg];exact Nat.ne_of_lt (blk_lt (g:=gb339) (o:=.cells #[.int .i64 a1_0,.int .i64 a1_1,.int .i64 a1_2,.int .i64 a1_3] 35 (0,0)) BK339.out) : gb339 ≠ gb366));have n11_:=Ak ((by rw [hg];exact Nat.ne_of_gt (blk_lt (g:=gb339) (o:=.cells #[.int .i64 a1_0,.int .i64 a1_1,.int .i64 a1_2,.int .i64 a1_3] 35 (0,0)) BK339.out) : gb366 ≠ gb339));have n12_:=Ak ((by rw [hg];exact Nat.ne_of_lt (blk_lt (g:=gb340) (o:=.cells #[.int .i64 a2_0,.int .i64 a2_1,.int .i64 a2_2,.int .i64 a2_3] 35 (0,0)) BK340.out) : gb340 ≠ gb366));have n13_:=Ak ((by rw [hg];exact Nat.ne_of_gt (blk_lt (g:=gb340) (o:=.cells #[.int .i64 a2_0,.int .i64 a2_1,.int .i64 a2_2,.int .i64 a2_3] 35 (0,0)) BK340.out) : gb366 ≠ gb340));have n14_:=Ak ((by rw [hg];exact Nat.ne_of_lt (blk_lt (g:=gb346) (o:=.cells #[.int .i64 t342,.int .i64 t343,.int .i64 t344,.int .i64 t345] 35 (0,0)) BK346.out) : gb346 ≠ gb366));have n15_:=Ak ((by rw [hg];exact Nat.ne_of_gt (blk_lt (g:=gb346) (o:=.cells #[.int .i64 t342,.int .i64 t343,.int .i64 t344,.int .i64 t345] 35 (0,0)) BK346.out) : gb366 ≠ gb346));clear BK338;clear BK339;clear BK340;clear BK346;clear HB;have BK338:=n0_;have BK339:=n1_;have BK340:=n2_;have BK346:=n3_;have HB:=n4_;have BK366:=n5_;have GW366:=n6_;have GE366:=n7_;have NB338_366:=n8_;have NB366_338:=n9_;have NB339_366:=n10_;have NB366_339:=n11_;have NB340_366:=n12_;have NB366_340:=n13_;have NB346_366:=n14_;have NB366_346:=n15_;clear n0_ n1_ n2_ n3_ n4_ n5_ n6_ n7_ n8_ n9_ n10_ n11_ n12_ n13_ n14_ n15_;clear hb hbox hg)|((with_reducible refine gate_dst (N:=9) rfl ?_);refine box_event ?hg (N:=9) ?hd (cs:=#[.int .u64 0,.int .u64 0]) (t:=25) ?hr ?_;(case hd => rfl);(case hg => rfl);(case hr => first|(go_simp;done)|(go_simp;rfl));intro gb367 hg w95 hbox hb;have n0_:=Kb BK338 hb;have n1_:=Kb BK339 hb;have n2_:=Kb BK340 hb;have n3_:=Kb BK346 hb;have n4_:=Kb BK366 hb;have n5_:=Kh HB hb;have n6_:=Ak (hbox);have n7_:=Ak ((by rw [hg];exact (below_size HB.out) : w.heap.size ≤ gb367));have n8_:=Ak ((by rw [hg];exact (below_size HB.out) : w.heap.size ≤ gb367));have n9_:=Ak ((by rw [hg];exact Nat.ne_of_lt (blk_lt (g:=gb338) (o:=.cells #[.int .i64 a0_0,.int .i64 a0_1,.int .i64 a0_2,.int .i64 a0_3] 35 (0,0)) BK338.out) : gb338 ≠ gb367));have n10_:=Ak ((by rw [hg];exact Nat.ne_of_gt (blk_lt (g:=gb338) (o:=.cells #[.int .i64 a0_0,.int .i64 a0_1,.int .i64 a0_2,.int .i64 a0_3] 35 (0,0)) BK338.out) : gb367 ≠ gb338));have n11_:=Ak ((by rw [hg];exact Nat.ne_of_lt (blk_lt (g:=gb339) (o:=.cells #[.int .i64 a1_0,.int .i64 a1_1,.int .i64 a1_2,.int .i64 a1_3] 35 (0,0)) BK339.out) : gb339 ≠ gb367));have n12_:=Ak ((by rw [hg];exact Nat.ne_of_gt (blk_lt (g:=gb339) (o:=.cells #[.int .i64 a1_0,.int .i64 a1_1,.int .i64 a1_2,.int .i64 a1_3] 35 (0,0)) BK339.out) : gb367 ≠ gb339));have n13_:=Ak ((by rw [hg];exact Nat.ne_of_lt (blk_lt (g:=gb340) (o:=.cells #[.int .i64 a2_0,.int .i64 a2_1,.int .i64 a2_2,.int .i64 a2_3] 35 (0,0)) BK340.out) : gb340 ≠ gb367));have n14_:=Ak ((by rw [hg];exact Nat.ne_of_gt (blk_lt (g:=gb340) (o:=.cells #[.int .i64 a2_0,.int .i64 a2_1,.int .i64 a2_2,.int .i64 a2_3] 35 (0,0)) BK340.out) : gb367 ≠ gb340));have n15_:=Ak ((by rw [hg];exact Nat.ne_of_lt (blk_lt (g:=gb346) (o:=.cells #[.int .i64 t342,.int .i64 t343,.int .i64 t344,.int .i64 t345] 35 (0,0)) BK346.out) : gb346 ≠ gb367));have n16_:=Ak ((by rw [hg];exact Nat.ne_of_gt (blk_lt (g:=gb346) (o:=.cells #[.int .i64 t342,.int .i64 t343,.int .i64 t344,.int .i64 t345] 35 (0,0)) BK346.out) : gb367 ≠ gb346));have n17_:=Ak ((by rw [hg];exact Nat.ne_of_lt (blk_lt (g:=gb366) (o:=.cells #[.int .u64 0,.int .u64 0] 25 (0,0)) BK366.out) : gb366 ≠ gb367));have n18_:=Ak ((by rw [hg];exact Nat.ne_of_gt (blk_lt (g:=gb366) (o:=.cells #[.int .u64 0,.int .u64 0] 25 (0,0)) BK366.out) : gb367 ≠ gb366));clear BK338;clear BK339;clear BK340;clear BK346;clear BK366;clear HB;have BK338:=n0_;have BK339:=n1_;have BK340:=n2_;have BK346:=n3_;have BK366:=n4_;have HB:=n5_;have BK367:=n6_;have GW367:=n7_;have GE367:=n8_;have NB338_367:=n9_;have NB367_338:=n10_;have NB339_367:=n11_;have NB367_339:=n12_;have NB340_367:=n13_;have NB367_340:=n14_;have NB346_367:=n15_;have NB367_346:=n16_;have NB366_367:=n17_;have NB367_366:=n18_;clear n0_ n1_ n2_ n3_ n4_ n5_ n6_ n7_ n8_ n9_ n10_ n11_ n12_ n13_ n14_ n15_ n16_ n17_ n18_;clear hb hbox hg;have hnb96:=NB366_338.out;have hnc96:=NB338_366.out;have hnb97:=NB366_339.out;have hnc97:=NB339_366.out;have hnb98:=NB366_340.out;have hnc98:=NB340_366.out;have hnb99:=NB366_346.out;have hnc99:=NB346_366.out;have hnb100:=NB366_367.out;have hnc100:=NB367_366.out;have hcz101_0 : w95.cell? ⟨gb366,0,none⟩ = some (.int .u64 0):=(kC BK366.out 0).trans rfl;have hcz101_1 : w95.cell? ⟨gb366,1,none⟩ = some (.int .u64 0):=(kC BK366.out 1).trans rfl;have hfz101_0:=blk_frozen BK366.out 0;have hfz101_1:=blk_frozen BK366.out 1;have hnb102:=NB367_338.out;have hnc102:=NB338_367.out;have hnb103:=NB367_339.out;have hnc103:=NB339_367.out;have hnb104:=NB367_340.out;have hnc104:=NB340_367.out;have hnb105:=NB367_346.out;have hnc105:=NB346_367.out;have hcz106_0 : w95.cell? ⟨gb367,0,none⟩ = some (.int .u64 0):=(kC BK367.out 0).trans rfl;have hcz106_1 : w95.cell? ⟨gb367,1,none⟩ = some (.int .u64 0):=(kC BK367.out 1).trans rfl;have hfz106_0:=blk_frozen BK367.out 0;have hfz106_1:=blk_frozen BK367.out 1))
            go_ret
            exact ⟨by first|rfl|(simp [errW_none,errW_some] <;> rfl)|(simp [*,errW_none,errW_some] <;> rfl),by repeat (first|(with_reducible first|exact HB.out|apply bA|apply bN|apply bD|refine bS ?_ GE338.out|refine bS ?_ GE339.out|refine bS ?_ GE340.out|refine bS ?_ GE346.out|refine bS ?_ GE366.out|refine bS ?_ GE367.out)|exact HB.out)⟩
           ·rw [if_neg c75] at H
            have c75b0 : (t362 == 0 && (t363 == 0)) = false:=by simpa using c75
            (try (have c75b1 : decide (t362 = 0 && (t363 == 0)) = false:=by simpa using c75))
            (try (have c75b2 : (t362 == 0 && (t363 == 0)) = false:=by simpa using c75))
            (try (have c75b3 : ¬ (t362 = 0 && (t363 == 0)):=by simpa using c75))
            clear c75
            obtain rfl:=Option.some.inj H
            have hnb107:=NB340_338.out
            have hnc107:=NB338_340.out
            have hnb108:=NB340_339.out
            have hnc108:=NB339_340.out
            have hnb109:=NB340_346.out
            have hnc109:=NB346_340.out
            have hcz110_0 : wc.cell? ⟨gb340,0,none⟩ = some (.int .i64 a2_0):=(kC BK340.out 0).trans rfl
            have hcz110_1 : wc.cell? ⟨gb340,1,none⟩ = some (.int .i64 a2_1):=(kC BK340.out 1).trans rfl
            have hcz110_2 : wc.cell? ⟨gb340,2,none⟩ = some (.int .i64 a2_2):=(kC BK340.out 2).trans rfl
            have hcz110_3 : wc.cell? ⟨gb340,3,none⟩ = some (.int .i64 a2_3):=(kC BK340.out 3).trans rfl
            have hfz110_0:=blk_frozen BK340.out 0
            have hfz110_1:=blk_frozen BK340.out 1
            have hfz110_2:=blk_frozen BK340.out 2
            have hfz110_3:=blk_frozen BK340.out 3
            have hnb111:=NB338_339.out
            have hnc111:=NB339_338.out
            have hnb112:=NB338_346.out
            have hnc112:=NB346_338.out
            have hcz113_0 : wc.cell? ⟨gb338,0,none⟩ = some (.int .i64 a0_0):=(kC BK338.out 0).trans rfl
            have hcz113_1 : wc.cell? ⟨gb338,1,none⟩ = some (.int .i64 a0_1):=(kC BK338.out 1).trans rfl
            have hcz113_2 : wc.cell? ⟨gb338,2,none⟩ = some (.int .i64 a0_2):=(kC BK338.out 2).trans rfl
            have hcz113_3 : wc.cell? ⟨gb338,3,none⟩ = some (.int .i64 a0_3):=(kC BK338.out 3).trans rfl
            have hfz113_0:=blk_frozen BK338.out 0
            have hfz113_1:=blk_frozen BK338.out 1
            have hfz113_2:=blk_frozen BK338.out 2
            have hfz113_3:=blk_frozen BK338.out 3
            go_wp2_with (first|((with_reducible refine gate_callee (f:=35) rfl ?_);refine goesL_ (some 52) rfl rfl Try.func35 (by kernel_rfl) rfl #[.agg #[.int .i64 a2_0,.int .i64 a2_1,.int .i64 a2_2,.int .i64 a2_3],.agg #[.int .i64 a0_0,.int .i64 a0_1,.int .i64 a0_2,.int .i64 a0_3]] rfl (by (try simp only [List.map_toArray,List.map_cons,List.map_nil]);first|done|rfl|(simp only [List.length_drop,List.length_take];rfl)) ?_;(with_reducible refine (key_Covers.calls a2_0 a2_1 a2_2 a2_3 a0_0 a0_1 a0_2 a0_3 true _ A68.out).mono ?_);rintro e w114 ⟨rfl,hb⟩;refine ⟨_,rfl,?_⟩;have n0_:=Kb BK338 hb;have n1_:=Kb BK339 hb;have n2_:=Kb BK340 hb;have n3_:=Kb BK346 hb;have n4_:=Kh HB hb;clear BK338;clear BK339;clear BK340;clear BK346;clear HB;have BK338:=n0_;have BK339:=n1_;have BK340:=n2_;have BK346:=n3_;have HB:=n4_;clear n0_ n1_ n2_ n3_ n4_;(try clear hb);(try clear hb2);(try clear hk);(try clear hi);have hcz115_0 : w114.cell? ⟨gb340,0,none⟩ = some (.int .i64 a2_0):=(kC BK340.out 0).trans rfl;have hcz115_1 : w114.cell? ⟨gb340,1,none⟩ = some (.int .i64 a2_1):=(kC BK340.out 1).trans rfl;have hcz115_2 : w114.cell? ⟨gb340,2,none⟩ = some (.int .i64 a2_2):=(kC BK340.out 2).trans rfl;have hcz115_3 : w114.cell? ⟨gb340,3,none⟩ = some (.int .i64 a2_3):=(kC BK340.out 3).trans rfl;have hfz115_0:=blk_frozen BK340.out 0;have hfz115_1:=blk_frozen BK340.out 1;have hfz115_2:=blk_frozen BK340.out 2;have hfz115_3:=blk_frozen BK340.out 3;have hnb116:=NB339_346.out;have hnc116:=NB346_339.out;have hcz117_0 : w114.cell? ⟨gb339,0,none⟩ = some (.int .i64 a1_0):=(kC BK339.out 0).trans rfl;have hcz117_1 : w114.cell? ⟨gb339,1,none⟩ = some (.int .i64 a1_1):=(kC BK339.out 1).trans rfl;have hcz117_2 : w114.cell? ⟨gb339,2,none⟩ = some (.int .i64 a1_2):=(kC BK339.out 2).trans rfl;have hcz117_3 : w114.cell? ⟨gb339,3,none⟩ = some (.int .i64 a1_3):=(kC BK339.out 3).trans rfl;have hfz117_0:=blk_frozen BK339.out 0;have hfz117_1:=blk_frozen BK339.out 1;have hfz117_2:=blk_frozen BK339.out 2;have hfz117_3:=blk_frozen BK339.out 3)|(go_at_call 35;(with_reducible refine (key_Covers.calls a2_0 a2_1 a2_2 a2_3 a1_0 a1_1 a1_2 a1_3 true _ A70.out).mono ?_);rintro e w118 ⟨rfl,hb⟩;have n0_:=Kb BK338 hb;have n1_:=Kb BK339 hb;have n2_:=Kb BK340 hb;have n3_:=Kb BK346 hb;have n4_:=Kh HB hb;clear BK338;clear BK339;clear BK340;clear BK346;clear HB;have BK338:=n0_;have BK339:=n1_;have BK340:=n2_;have BK346:=n3_;have HB:=n4_;clear n0_ n1_ n2_ n3_ n4_;(try clear hb);(try clear hb2);(try clear hk);(try clear hi);have hcz119_0 : w118.cell? ⟨gb340,0,none⟩ = some (.int .i64 a2_0):=(kC BK340.out 0).trans rfl;have hcz119_1 : w118.cell? ⟨gb340,1,none⟩ = some (.int .i64 a2_1):=(kC BK340.out 1).trans rfl;have hcz119_2 : w118.cell? ⟨gb340,2,none⟩ = some (.int .i64 a2_2):=(kC BK340.out 2).trans rfl;have hcz119_3 : w118.cell? ⟨gb340,3,none⟩ = some (.int .i64 a2_3):=(kC BK340.out 3).trans rfl;have hfz119_0:=blk_frozen BK340.out 0;have hfz119_1:=blk_frozen BK340.out 1;have hfz119_2:=blk_frozen BK340.out 2;have hfz119_3:=blk_frozen BK340.out 3;have hcz120_0 : w118.cell? ⟨gb346,0,none⟩ = some (.int .i64 t342):=(kC BK346.out 0).trans rfl;have hcz120_1 : w118.cell? ⟨gb346,1,none⟩ = some (.int .i64 t343):=(kC BK346.out 1).trans rfl;have hcz120_2 : w118.cell? ⟨gb346,2,none⟩ = some (.int .i64 t344):=(kC BK346.out 2).trans rfl;have hcz120_3 : w118.cell? ⟨gb346,3,none⟩ = some (.int .i64 t345):=(kC BK346.out 3).trans rfl;have hfz120_0:=blk_frozen BK346.out 0;have hfz120_1:=blk_frozen BK346.out 1;have hfz120_2:=blk_frozen BK346.out 2;have hfz120_3:=blk_frozen BK346.out 3)|(go_at_call 35;(with_reducible refine (key_Covers.calls a2_0 a2_1 a2_2 a2_3 t342 t343 t344 t345 true _ A72.out).mono ?_);rintro e w121 ⟨rfl,hb⟩;have n0_:=Kb BK338 hb;have n1_:=Kb BK339 hb;have n2_:=Kb BK340 hb;have n3_:=Kb BK346 hb;have n4_:=Kh HB hb;clear BK338;clear BK339;clear BK340;clear BK346;clear HB;have BK338:=n0_;have BK339:=n1_;have BK340:=n2_;have BK346:=n3_;have HB:=n4_;clear n0_ n1_ n2_ n3_ n4_;(try clear hb);(try clear hb2);(try clear hk);(try clear hi);have hcz122_0 : w121.cell? ⟨gb346,0,none⟩ = some (.int .i64 t342):=(kC BK346.out 0).trans rfl;have hcz122_1 : w121.cell? ⟨gb346,1,none⟩ = some (.int .i64 t343):=(kC BK346.out 1).trans rfl;have hcz122_2 : w121.cell? ⟨gb346,2,none⟩ = some (.int .i64 t344):=(kC BK346.out 2).trans rfl;have hcz122_3 : w121.cell? ⟨gb346,3,none⟩ = some (.int .i64 t345):=(kC BK346.out 3).trans rfl;have hfz122_0:=blk_frozen BK346.out 0;have hfz122_1:=blk_frozen BK346.out 1;have hfz122_2:=blk_frozen BK346.out 2;have hfz122_3:=blk_frozen BK346.out 3;have hcz123_0 : w121.cell? ⟨gb338,0,none⟩ = some (.int .i64 a0_0):=(kC BK338.out 0).trans rfl;have hcz123_1 : w121.cell? ⟨gb338,1,none⟩ = some (.int .i64 a0_1):=(kC BK338.out 1).trans rfl;have hcz123_2 : w121.cell? ⟨gb338,2,none⟩ = some (.int .i64 a0_2):=(kC BK338.out 2).trans rfl;have hcz123_3 : w121.cell? ⟨gb338,3,none⟩ = some (.int .i64 a0_3):=(kC BK338.out 3).trans rfl;have hfz123_0:=blk_frozen BK338.out 0;have hfz123_1:=blk_frozen BK338.out 1;have hfz123_2:=blk_frozen BK338.out 2;have hfz123_3:=blk_frozen BK338.out 3)|((with_reducible refine gate_callee (f:=36) rfl ?_);refine goesL_ (some 67) rfl rfl Try.func36 (by kernel_rfl) rfl #[.agg #[.int .i64 t342,.int .i64 t343,.int .i64 t344,.int .i64 t345],.agg #[.int .i64 a0_0,.int .i64 a0_1,.int .i64 a0_2,.int .i64 a0_3]] rfl (by (try simp only [List.map_toArray,List.map_cons,List.map_nil]);first|done|rfl|(simp only [List.length_drop,List.length_take];rfl)) ?_;(with_reducible refine (key_Grows.calls t342 t343 t344 t345 a0_0 a0_1 a0_2 a0_3 t362 t363 t364 t365 _ A74.out).mono ?_);rintro e w124 ⟨rfl,hb⟩;refine ⟨_,rfl,?_⟩;have n0_:=Kb BK338 hb;have n1_:=Kb BK339 hb;have n2_:=Kb BK340 hb;have n3_:=Kb BK346 hb;have n4_:=Kh HB hb;clear BK338;clear BK339;clear BK340;clear BK346;clear HB;have BK338:=n0_;have BK339:=n1_;have BK340:=n2_;have BK346:=n3_;have HB:=n4_;clear n0_ n1_ n2_ n3_ n4_;(try clear hb);(try clear hb2);(try clear hk);(try clear hi))|((with_reducible refine gate_dst (N:=8) rfl ?_);refine box_event ?hg (N:=8) ?hd (cs:=#[.int .u64 0,.int .u64 0]) (t:=25) ?hr ?_;(case hd => rfl);(case hg => rfl);(case hr => first|(go_simp;done)|(go_simp;rfl));intro gb366 hg w125 hbox hb;have n0_:=Kb BK338 hb;have n1_:=Kb BK339 hb;have n2_:=Kb BK340 hb;have n3_:=Kb BK346 hb;have n4_:=Kh HB hb;have n5_:=Ak (hbox);have n6_:=Ak ((by rw [hg];exact (below_size HB.out) : w.heap.size ≤ gb366));have n7_:=Ak ((by rw [hg];exact (below_size HB.out) : w.heap.size ≤ gb366));have n8_:=Ak ((by rw [hg];exact Nat.ne_of_lt (blk_lt (g:=gb338) (o:=.cells #[.int .i64 a0_0,.int .i64 a0_1,.int .i64 a0_2,.int .i64 a0_3] 35 (0,0)) BK338.out) : gb338 ≠ gb366));have n9_:=Ak ((by rw [hg];exact Nat.ne_of_gt (blk_lt (g:=gb338) (o:=.cells #[.int .i64 a0_0,.int .i64 a0_1,.int .i64 a0_2,.int .i64 a0_3] 35 (0,0)) BK338.out) : gb366 ≠ gb338));have n10_:=Ak ((by rw [hg];exact Nat.ne_of_lt (blk_lt (g:=gb339) (o:=.cells #[.int .i64 a1_0,.int .i64 a1_1,.int .i64 a1_2,.int .i64 a1_3] 35 (0,0)) BK339.out) : gb339 ≠ gb366));have n11_:=Ak ((by rw [hg];exact Nat.ne_of_gt (blk_lt (g:=gb339) (o:=.cells #[.int .i64 a1_0,.int .i64 a1_1,.int .i64 a1_2,.int .i64 a1_3] 35 (0,0)) BK339.out) : gb366 ≠ gb339));have n12_:=Ak ((by rw [hg];exact Nat.ne_of_lt (blk_lt (g:=gb340) (o:=.cells #[.int .i64 a2_0,.int .i64 a2_1,.int .i64 a2_2,.int .i64 a2_3] 35 (0,0)) BK340.out) : gb340 ≠ gb366));have n13_:=Ak ((by rw [hg];exact Nat.ne_of_gt (blk_lt (g:=gb340) (o:=.cells #[.int .i64 a2_0,.int .i64 a2_1,.int .i64 a2_2,.int .i64 a2_3] 35 (0,0)) BK340.out) : gb366 ≠ gb340));have n14_:=Ak ((by rw [hg];exact Nat.ne_of_lt (blk_lt (g:=gb346) (o:=.cells #[.int .i64 t342,.int .i64 t343,.int .i64 t344,.int .i64 t345] 35 (0,0)) BK346.out) : gb346 ≠ gb366));have n15_:=Ak ((by rw [hg];exact Nat.ne_of_gt (blk_lt (g:=gb346) (o:=.cells #[.int .i64 t342,.int .i64 t343,.int .i64 t344,.int .i64 t345] 35 (0,0)) BK346.out) : gb366 ≠ gb346));clear BK338;clear BK339;clear BK340;clear BK346;clear HB;have BK338:=n0_;have BK339:=n1_;have BK340:=n2_;have BK346:=n3_;have HB:=n4_;have BK366:=n5_;have GW366:=n6_;have GE366:=n7_;have NB338_366:=n8_;have NB366_338:=n9_;have NB339_366:=n10_;have NB366_339:=n11_;have NB340_366:=n12_;have NB366_340:=n13_;have NB346_366:=n14_;have NB366_346:=n15_;clear n0_ n1_ n2_ n3_ n4_ n5_ n6_ n7_ n8_ n9_ n10_ n11_ n12_ n13_ n14_ n15_;clear hb hbox hg)|((with_reducible refine gate_dst (N:=9) rfl ?_);refine box_event ?hg (N:=9) ?hd (cs:=#[.int .u64 0,.int .u64 0]) (t:=25) ?hr ?_;(case hd => rfl);(case hg => rfl);(case hr => first|(go_simp;done)|(go_simp;rfl));intro gb367 hg w126 hbox hb;have n0_:=Kb BK338 hb;have n1_:=Kb BK339 hb;have n2_:=Kb BK340 hb;have n3_:=Kb BK346 hb;have n4_:=Kb BK366 hb;have n5_:=Kh HB hb;have n6_:=Ak (hbox);have n7_:=Ak ((by rw [hg];exact (below_size HB.out) : w.heap.size ≤ gb367));have n8_:=Ak ((by rw [hg];exact (below_size HB.out) : w.heap.size ≤ gb367));have n9_:=Ak ((by rw [hg];exact Nat.ne_of_lt (blk_lt (g:=gb338) (o:=.cells #[.int .i64 a0_0,.int .i64 a0_1,.int .i64 a0_2,.int .i64 a0_3] 35 (0,0)) BK338.out) : gb338 ≠ gb367));have n10_:=Ak ((by rw [hg];exact Nat.ne_of_gt (blk_lt (g:=gb338) (o:=.cells #[.int .i64 a0_0,.int .i64 a0_1,.int .i64 a0_2,.int .i64 a0_3] 35 (0,0)) BK338.out) : gb367 ≠ gb338));have n11_:=Ak ((by rw [hg];exact Nat.ne_of_lt (blk_lt (g:=gb339) (o:=.cells #[.int .i64 a1_0,.int .i64 a1_1,.int .i64 a1_2,.int .i64 a1_3] 35 (0,0)) BK339.out) : gb339 ≠ gb367));have n12_:=Ak ((by rw [hg];exact Nat.ne_of_gt (blk_lt (g:=gb339) (o:=.cells #[.int .i64 a1_0,.int .i64 a1_1,.int .i64 a1_2,.int .i64 a1_3] 35 (0,0)) BK339.out) : gb367 ≠ gb339));have n13_:=Ak ((by rw [hg];exact Nat.ne_of_lt (blk_lt (g:=gb340) (o:=.cells #[.int .i64 a2_0,.int .i64 a2_1,.int .i64 a2_2,.int .i64 a2_3] 35 (0,0)) BK340.out) : gb340 ≠ gb367));have n14_:=Ak ((by rw [hg];exact Nat.ne_of_gt (blk_lt (g:=gb340) (o:=.cells #[.int .i64 a2_0,.int .i64 a2_1,.int .i64 a2_2,.int .i64 a2_3] 35 (0,0)) BK340.out) : gb367 ≠ gb340));have n15_:=Ak ((by rw [hg];exact Nat.ne_of_lt (blk_lt (g:=gb346) (o:=.cells #[.int .i64 t342,.int .i64 t343,.int .i64 t344,.int .i64 t345] 35 (0,0)) BK346.out) : gb346 ≠ gb367));have n16_:=Ak ((by rw [hg];exact Nat.ne_of_gt (blk_lt (g:=gb346) (o:=.cells #[.int .i64 t342,.int .i64 t343,.int .i64 t344,.int .i64 t345] 35 (0,0)) BK346.out) : gb367 ≠ gb346));have n17_:=Ak ((by rw [hg];exact Nat.ne_of_lt (blk_lt (g:=gb366) (o:=.cells #[.int .u64 0,.int .u64 0] 25 (0,0)) BK366.out) : gb366 ≠ gb367));have n18_:=Ak ((by rw [hg];exact Nat.ne_of_gt (blk_lt (g:=gb366) (o:=.cells #[.int .u64 0,.int .u64 0] 25 (0,0)) BK366.out) : gb367 ≠ gb366));clear BK338;clear BK339;clear BK340;clear BK346;clear BK366;clear HB;have BK338:=n0_;have BK339:=n1_;have BK340:=n2_;have BK346:=n3_;have BK366:=n4_;have HB:=n5_;have BK367:=n6_;have GW367:=n7_;have GE367:=n8_;have NB338_367:=n9_;have NB367_338:=n10_;have NB339_367:=n11_;have NB367_339:=n12_;have NB340_367:=n13_;have NB367_340:=n14_;have NB346_367:=n15_;have NB367_346:=n16_;have NB366_367:=n17_;have NB367_366:=n18_;clear n0_ n1_ n2_ n3_ n4_ n5_ n6_ n7_ n8_ n9_ n10_ n11_ n12_ n13_ n14_ n15_ n16_ n17_ n18_;clear hb hbox hg;have hnb127:=NB366_338.out;have hnc127:=NB338_366.out;have hnb128:=NB366_339.out;have hnc128:=NB339_366.out;have hnb129:=NB366_340.out;have hnc129:=NB340_366.out;have hnb130:=NB366_346.out;have hnc130:=NB346_366.out;have hnb131:=NB366_367.out;have hnc131:=NB367_366.out;have hcz132_0 : w126.cell? ⟨gb366,0,none⟩ = some (.int .u64 0):=(kC BK366.out 0).trans rfl;have hcz132_1 : w126.cell? ⟨gb366,1,none⟩ = some (.int .u64 0):=(kC BK366.out 1).trans rfl;have hfz132_0:=blk_frozen BK366.out 0;have hfz132_1:=blk_frozen BK366.out 1;have hnb133:=NB367_338.out;have hnc133:=NB338_367.out;have hnb134:=NB367_339.out;have hnc134:=NB339_367.out;have hnb135:=NB367_340.out;have hnc135:=NB340_367.out;have hnb136:=NB367_346.out;have hnc136:=NB346_367.out;have hcz137_0 : w126.cell? ⟨gb367,0,none⟩ = some (.int .u64 0):=(kC BK367.out 0).trans rfl;have hcz137_1 : w126.cell? ⟨gb367,1,none⟩ = some (.int .u64 0):=(kC BK367.out 1).trans rfl;have hfz137_0:=blk_frozen BK367.out 0;have hfz137_1:=blk_frozen BK367.out 1))
            go_ret
            exact ⟨by first|rfl|(simp [errW_none,errW_some] <;> rfl)|(simp [*,errW_none,errW_some] <;> rfl),by repeat (first|(with_reducible first|exact HB.out|apply bA|apply bN|apply bD|refine bS ?_ GE338.out|refine bS ?_ GE339.out|refine bS ?_ GE340.out|refine bS ?_ GE346.out|refine bS ?_ GE366.out|refine bS ?_ GE367.out)|exact HB.out)⟩
          ·replace c73:=Bool.eq_false_iff.mpr c73
           subst c73
           have H1 : (some false) = some r:=by rw [if_neg (show ¬ (false = true) by decide)] at H;exact H
           clear H
           have H:=H1
           clear H1
           obtain rfl:=Option.some.inj H
           have hnb138:=NB340_338.out
           have hnc138:=NB338_340.out
           have hnb139:=NB340_339.out
           have hnc139:=NB339_340.out
           have hnb140:=NB340_346.out
           have hnc140:=NB346_340.out
           have hcz141_0 : wc.cell? ⟨gb340,0,none⟩ = some (.int .i64 a2_0):=(kC BK340.out 0).trans rfl
           have hcz141_1 : wc.cell? ⟨gb340,1,none⟩ = some (.int .i64 a2_1):=(kC BK340.out 1).trans rfl
           have hcz141_2 : wc.cell? ⟨gb340,2,none⟩ = some (.int .i64 a2_2):=(kC BK340.out 2).trans rfl
           have hcz141_3 : wc.cell? ⟨gb340,3,none⟩ = some (.int .i64 a2_3):=(kC BK340.out 3).trans rfl
           have hfz141_0:=blk_frozen BK340.out 0
           have hfz141_1:=blk_frozen BK340.out 1
           have hfz141_2:=blk_frozen BK340.out 2
           have hfz141_3:=blk_frozen BK340.out 3
           have hnb142:=NB338_339.out
           have hnc142:=NB339_338.out
           have hnb143:=NB338_346.out
           have hnc143:=NB346_338.out
           have hcz144_0 : wc.cell? ⟨gb338,0,none⟩ = some (.int .i64 a0_0):=(kC BK338.out 0).trans rfl
           have hcz144_1 : wc.cell? ⟨gb338,1,none⟩ = some (.int .i64 a0_1):=(kC BK338.out 1).trans rfl
           have hcz144_2 : wc.cell? ⟨gb338,2,none⟩ = some (.int .i64 a0_2):=(kC BK338.out 2).trans rfl
           have hcz144_3 : wc.cell? ⟨gb338,3,none⟩ = some (.int .i64 a0_3):=(kC BK338.out 3).trans rfl
           have hfz144_0:=blk_frozen BK338.out 0
           have hfz144_1:=blk_frozen BK338.out 1
           have hfz144_2:=blk_frozen BK338.out 2
           have hfz144_3:=blk_frozen BK338.out 3
           go_wp2_with (first|((with_reducible refine gate_callee (f:=35) rfl ?_);refine goesL_ (some 52) rfl rfl Try.func35 (by kernel_rfl) rfl #[.agg #[.int .i64 a2_0,.int .i64 a2_1,.int .i64 a2_2,.int .i64 a2_3],.agg #[.int .i64 a0_0,.int .i64 a0_1,.int .i64 a0_2,.int .i64 a0_3]] rfl (by (try simp only [List.map_toArray,List.map_cons,List.map_nil]);first|done|rfl|(simp only [List.length_drop,List.length_take];rfl)) ?_;(with_reducible refine (key_Covers.calls a2_0 a2_1 a2_2 a2_3 a0_0 a0_1 a0_2 a0_3 true _ A68.out).mono ?_);rintro e w145 ⟨rfl,hb⟩;refine ⟨_,rfl,?_⟩;have n0_:=Kb BK338 hb;have n1_:=Kb BK339 hb;have n2_:=Kb BK340 hb;have n3_:=Kb BK346 hb;have n4_:=Kh HB hb;clear BK338;clear BK339;clear BK340;clear BK346;clear HB;have BK338:=n0_;have BK339:=n1_;have BK340:=n2_;have BK346:=n3_;have HB:=n4_;clear n0_ n1_ n2_ n3_ n4_;(try clear hb);(try clear hb2);(try clear hk);(try clear hi);have hcz146_0 : w145.cell? ⟨gb340,0,none⟩ = some (.int .i64 a2_0):=(kC BK340.out 0).trans rfl;have hcz146_1 : w145.cell? ⟨gb340,1,none⟩ = some (.int .i64 a2_1):=(kC BK340.out 1).trans rfl;have hcz146_2 : w145.cell? ⟨gb340,2,none⟩ = some (.int .i64 a2_2):=(kC BK340.out 2).trans rfl;have hcz146_3 : w145.cell? ⟨gb340,3,none⟩ = some (.int .i64 a2_3):=(kC BK340.out 3).trans rfl;have hfz146_0:=blk_frozen BK340.out 0;have hfz146_1:=blk_frozen BK340.out 1;have hfz146_2:=blk_frozen BK340.out 2;have hfz146_3:=blk_frozen BK340.out 3;have hnb147:=NB339_346.out;have hnc147:=NB346_339.out;have hcz148_0 : w145.cell? ⟨gb339,0,none⟩ = some (.int .i64 a1_0):=(kC BK339.out 0).trans rfl;have hcz148_1 : w145.cell? ⟨gb339,1,none⟩ = some (.int .i64 a1_1):=(kC BK339.out 1).trans rfl;have hcz148_2 : w145.cell? ⟨gb339,2,none⟩ = some (.int .i64 a1_2):=(kC BK339.out 2).trans rfl;have hcz148_3 : w145.cell? ⟨gb339,3,none⟩ = some (.int .i64 a1_3):=(kC BK339.out 3).trans rfl;have hfz148_0:=blk_frozen BK339.out 0;have hfz148_1:=blk_frozen BK339.out 1;have hfz148_2:=blk_frozen BK339.out 2;have hfz148_3:=blk_frozen BK339.out 3)|(go_at_call 35;(with_reducible refine (key_Covers.calls a2_0 a2_1 a2_2 a2_3 a1_0 a1_1 a1_2 a1_3 true _ A70.out).mono ?_);rintro e w149 ⟨rfl,hb⟩;have n0_:=Kb BK338 hb;have n1_:=Kb BK339 hb;have n2_:=Kb BK340 hb;have n3_:=Kb BK346 hb;have n4_:=Kh HB hb;clear BK338;clear BK339;clear BK340;clear BK346;clear HB;have BK338:=n0_;have BK339:=n1_;have BK340:=n2_;have BK346:=n3_;have HB:=n4_;clear n0_ n1_ n2_ n3_ n4_;(try clear hb);(try clear hb2);(try clear hk);(try clear hi);have hcz150_0 : w149.cell? ⟨gb340,0,none⟩ = some (.int .i64 a2_0):=(kC BK340.out 0).trans rfl;have hcz150_1 : w149.cell? ⟨gb340,1,none⟩ = some (.int .i64 a2_1):=(kC BK340.out 1).trans rfl;have hcz150_2 : w149.cell? ⟨gb340,2,none⟩ = some (.int .i64 a2_2):=(kC BK340.out 2).trans rfl;have hcz150_3 : w149.cell? ⟨gb340,3,none⟩ = some (.int .i64 a2_3):=(kC BK340.out 3).trans rfl;have hfz150_0:=blk_frozen BK340.out 0;have hfz150_1:=blk_frozen BK340.out 1;have hfz150_2:=blk_frozen BK340.out 2;have hfz150_3:=blk_frozen BK340.out 3;have hcz151_0 : w149.cell? ⟨gb346,0,none⟩ = some (.int .i64 t342):=(kC BK346.out 0).trans rfl;have hcz151_1 : w149.cell? ⟨gb346,1,none⟩ = some (.int .i64 t343):=(kC BK346.out 1).trans rfl;have hcz151_2 : w149.cell? ⟨gb346,2,none⟩ = some (.int .i64 t344):=(kC BK346.out 2).trans rfl;have hcz151_3 : w149.cell? ⟨gb346,3,none⟩ = some (.int .i64 t345):=(kC BK346.out 3).trans rfl;have hfz151_0:=blk_frozen BK346.out 0;have hfz151_1:=blk_frozen BK346.out 1;have hfz151_2:=blk_frozen BK346.out 2;have hfz151_3:=blk_frozen BK346.out 3)|(go_at_call 35;(with_reducible refine (key_Covers.calls a2_0 a2_1 a2_2 a2_3 t342 t343 t344 t345 false _ A72.out).mono ?_);rintro e w152 ⟨rfl,hb⟩;have n0_:=Kb BK338 hb;have n1_:=Kb BK339 hb;have n2_:=Kb BK340 hb;have n3_:=Kb BK346 hb;have n4_:=Kh HB hb;clear BK338;clear BK339;clear BK340;clear BK346;clear HB;have BK338:=n0_;have BK339:=n1_;have BK340:=n2_;have BK346:=n3_;have HB:=n4_;clear n0_ n1_ n2_ n3_ n4_;(try clear hb);(try clear hb2);(try clear hk);(try clear hi)))
           go_ret
           exact ⟨by first|rfl|(simp [errW_none,errW_some] <;> rfl)|(simp [*,errW_none,errW_some] <;> rfl),by repeat (first|(with_reducible first|exact HB.out|apply bA|apply bN|apply bD|refine bS ?_ GE338.out|refine bS ?_ GE339.out|refine bS ?_ GE340.out|refine bS ?_ GE346.out)|exact HB.out)⟩
         ·replace c71:=Bool.eq_false_iff.mpr c71
          subst c71
          have H1 : ((key_Grows.f t342 t343 t344 t345 a0_0 a0_1 a0_2 a0_3).bind fun bt368 => (if (bt368.1 == 0 && (bt368.2.1 == 0)) = true then (some (bt368.2.2.1 == 0 && (bt368.2.2.2 == 0))) else (some false))) = some r:=by rw [if_neg (show ¬ (false = true) by decide)] at H;exact H
          clear H
          have H:=H1
          clear H1
          replace H:=Option.bind_eq_some_iff.mp H
          obtain ⟨⟨t368,t369,t370,t371⟩,A1530,H⟩:=H
          replace H : (if (t368 == 0 && (t369 == 0)) = true then (some (t370 == 0 && (t371 == 0))) else (some false)) = some r:=H
          have A153:=Ak A1530
          clear A1530
          by_cases c154 : (t368 == 0 && (t369 == 0)) = true
          ·rw [if_pos c154] at H
           have c154b0 : (t368 == 0 && (t369 == 0)) = true:=c154
           (try (have c154b1 : decide (t368 = 0 && (t369 == 0)) = true:=by simpa using c154))
           (try (have c154b2 : (t368 == 0 && (t369 == 0)) = true:=by simpa using c154))
           clear c154
           obtain rfl:=Option.some.inj H
           have hnb155:=NB340_338.out
           have hnc155:=NB338_340.out
           have hnb156:=NB340_339.out
           have hnc156:=NB339_340.out
           have hnb157:=NB340_346.out
           have hnc157:=NB346_340.out
           have hcz158_0 : wc.cell? ⟨gb340,0,none⟩ = some (.int .i64 a2_0):=(kC BK340.out 0).trans rfl
           have hcz158_1 : wc.cell? ⟨gb340,1,none⟩ = some (.int .i64 a2_1):=(kC BK340.out 1).trans rfl
           have hcz158_2 : wc.cell? ⟨gb340,2,none⟩ = some (.int .i64 a2_2):=(kC BK340.out 2).trans rfl
           have hcz158_3 : wc.cell? ⟨gb340,3,none⟩ = some (.int .i64 a2_3):=(kC BK340.out 3).trans rfl
           have hfz158_0:=blk_frozen BK340.out 0
           have hfz158_1:=blk_frozen BK340.out 1
           have hfz158_2:=blk_frozen BK340.out 2
           have hfz158_3:=blk_frozen BK340.out 3
           have hnb159:=NB338_339.out
           have hnc159:=NB339_338.out
           have hnb160:=NB338_346.out
           have hnc160:=NB346_338.out
           have hcz161_0 : wc.cell? ⟨gb338,0,none⟩ = some (.int .i64 a0_0):=(kC BK338.out 0).trans rfl
           have hcz161_1 : wc.cell? ⟨gb338,1,none⟩ = some (.int .i64 a0_1):=(kC BK338.out 1).trans rfl
           have hcz161_2 : wc.cell? ⟨gb338,2,none⟩ = some (.int .i64 a0_2):=(kC BK338.out 2).trans rfl
           have hcz161_3 : wc.cell? ⟨gb338,3,none⟩ = some (.int .i64 a0_3):=(kC BK338.out 3).trans rfl
           have hfz161_0:=blk_frozen BK338.out 0
           have hfz161_1:=blk_frozen BK338.out 1
           have hfz161_2:=blk_frozen BK338.out 2
           have hfz161_3:=blk_frozen BK338.out 3
           go_wp2_with (first|((with_reducible refine gate_callee (f:=35) rfl ?_);refine goesL_ (some 52) rfl rfl Try.func35 (by kernel_rfl) rfl #[.agg #[.int .i64 a2_0,.int .i64 a2_1,.int .i64 a2_2,.int .i64 a2_3],.agg #[.int .i64 a0_0,.int .i64 a0_1,.int .i64 a0_2,.int .i64 a0_3]] rfl (by (try simp only [List.map_toArray,List.map_cons,List.map_nil]);first|done|rfl|(simp only [List.length_drop,List.length_take];rfl)) ?_;(with_reducible refine (key_Covers.calls a2_0 a2_1 a2_2 a2_3 a0_0 a0_1 a0_2 a0_3 true _ A68.out).mono ?_);rintro e w162 ⟨rfl,hb⟩;refine ⟨_,rfl,?_⟩;have n0_:=Kb BK338 hb;have n1_:=Kb BK339 hb;have n2_:=Kb BK340 hb;have n3_:=Kb BK346 hb;have n4_:=Kh HB hb;clear BK338;clear BK339;clear BK340;clear BK346;clear HB;have BK338:=n0_;have BK339:=n1_;have BK340:=n2_;have BK346:=n3_;have HB:=n4_;clear n0_ n1_ n2_ n3_ n4_;(try clear hb);(try clear hb2);(try clear hk);(try clear hi);have hcz163_0 : w162.cell? ⟨gb340,0,none⟩ = some (.int .i64 a2_0):=(kC BK340.out 0).trans rfl;have hcz163_1 : w162.cell? ⟨gb340,1,none⟩ = some (.int .i64 a2_1):=(kC BK340.out 1).trans rfl;have hcz163_2 : w162.cell? ⟨gb340,2,none⟩ = some (.int .i64 a2_2):=(kC BK340.out 2).trans rfl;have hcz163_3 : w162.cell? ⟨gb340,3,none⟩ = some (.int .i64 a2_3):=(kC BK340.out 3).trans rfl;have hfz163_0:=blk_frozen BK340.out 0;have hfz163_1:=blk_frozen BK340.out 1;have hfz163_2:=blk_frozen BK340.out 2;have hfz163_3:=blk_frozen BK340.out 3;have hnb164:=NB339_346.out;have hnc164:=NB346_339.out;have hcz165_0 : w162.cell? ⟨gb339,0,none⟩ = some (.int .i64 a1_0):=(kC BK339.out 0).trans rfl;have hcz165_1 : w162.cell? ⟨gb339,1,none⟩ = some (.int .i64 a1_1):=(kC BK339.out 1).trans rfl;have hcz165_2 : w162.cell? ⟨gb339,2,none⟩ = some (.int .i64 a1_2):=(kC BK339.out 2).trans rfl;have hcz165_3 : w162.cell? ⟨gb339,3,none⟩ = some (.int .i64 a1_3):=(kC BK339.out 3).trans rfl;have hfz165_0:=blk_frozen BK339.out 0;have hfz165_1:=blk_frozen BK339.out 1;have hfz165_2:=blk_frozen BK339.out 2;have hfz165_3:=blk_frozen BK339.out 3)|(go_at_call 35;(with_reducible refine (key_Covers.calls a2_0 a2_1 a2_2 a2_3 a1_0 a1_1 a1_2 a1_3 false _ A70.out).mono ?_);rintro e w166 ⟨rfl,hb⟩;have n0_:=Kb BK338 hb;have n1_:=Kb BK339 hb;have n2_:=Kb BK340 hb;have n3_:=Kb BK346 hb;have n4_:=Kh HB hb;clear BK338;clear BK339;clear BK340;clear BK346;clear HB;have BK338:=n0_;have BK339:=n1_;have BK340:=n2_;have BK346:=n3_;have HB:=n4_;clear n0_ n1_ n2_ n3_ n4_;(try clear hb);(try clear hb2);(try clear hk);(try clear hi);have hcz167_0 : w166.cell? ⟨gb346,0,none⟩ = some (.int .i64 t342):=(kC BK346.out 0).trans rfl;have hcz167_1 : w166.cell? ⟨gb346,1,none⟩ = some (.int .i64 t343):=(kC BK346.out 1).trans rfl;have hcz167_2 : w166.cell? ⟨gb346,2,none⟩ = some (.int .i64 t344):=(kC BK346.out 2).trans rfl;have hcz167_3 : w166.cell? ⟨gb346,3,none⟩ = some (.int .i64 t345):=(kC BK346.out 3).trans rfl;have hfz167_0:=blk_frozen BK346.out 0;have hfz167_1:=blk_frozen BK346.out 1;have hfz167_2:=blk_frozen BK346.out 2;have hfz167_3:=blk_frozen BK346.out 3;have hcz168_0 : w166.cell? ⟨gb338,0,none⟩ = some (.int .i64 a0_0):=(kC BK338.out 0).trans rfl;have hcz168_1 : w166.cell? ⟨gb338,1,none⟩ = some (.int .i64 a0_1):=(kC BK338.out 1).trans rfl;have hcz168_2 : w166.cell? ⟨gb338,2,none⟩ = some (.int .i64 a0_2):=(kC BK338.out 2).trans rfl;have hcz168_3 : w166.cell? ⟨gb338,3,none⟩ = some (.int .i64 a0_3):=(kC BK338.out 3).trans rfl;have hfz168_0:=blk_frozen BK338.out 0;have hfz168_1:=blk_frozen BK338.out 1;have hfz168_2:=blk_frozen BK338.out 2;have hfz168_3:=blk_frozen BK338.out 3)|((with_reducible refine gate_callee (f:=36) rfl ?_);refine goesL_ (some 67) rfl rfl Try.func36 (by kernel_rfl) rfl #[.agg #[.int .i64 t342,.int .i64 t343,.int .i64 t344,.int .i64 t345],.agg #[.int .i64 a0_0,.int .i64 a0_1,.int .i64 a0_2,.int .i64 a0_3]] rfl (by (try simp only [List.map_toArray,List.map_cons,List.map_nil]);first|done|rfl|(simp only [List.length_drop,List.length_take];rfl)) ?_;(with_reducible refine (key_Grows.calls t342 t343 t344 t345 a0_0 a0_1 a0_2 a0_3 t368 t369 t370 t371 _ A153.out).mono ?_);rintro e w169 ⟨rfl,hb⟩;refine ⟨_,rfl,?_⟩;have n0_:=Kb BK338 hb;have n1_:=Kb BK339 hb;have n2_:=Kb BK340 hb;have n3_:=Kb BK346 hb;have n4_:=Kh HB hb;clear BK338;clear BK339;clear BK340;clear BK346;clear HB;have BK338:=n0_;have BK339:=n1_;have BK340:=n2_;have BK346:=n3_;have HB:=n4_;clear n0_ n1_ n2_ n3_ n4_;(try clear hb);(try clear hb2);(try clear hk);(try clear hi))|((with_reducible refine gate_dst (N:=8) rfl ?_);refine box_event ?hg (N:=8) ?hd (cs:=#[.int .u64 0,.int .u64 0]) (t:=25) ?hr ?_;(case hd => rfl);(case hg => rfl);(case hr => first|(go_simp;done)|(go_simp;rfl));intro gb372 hg w170 hbox hb;have n0_:=Kb BK338 hb;have n1_:=Kb BK339 hb;have n2_:=Kb BK340 hb;have n3_:=Kb BK346 hb;have n4_:=Kh HB hb;have n5_:=Ak (hbox);have n6_:=Ak ((by rw [hg];exact (below_size HB.out) : w.heap.size ≤ gb372));have n7_:=Ak ((by rw [hg];exact (below_size HB.out) : w.heap.size ≤ gb372));have n8_:=Ak ((by rw [hg];exact Nat.ne_of_lt (blk_lt (g:=gb338) (o:=.cells #[.int .i64 a0_0,.int .i64 a0_1,.int .i64 a0_2,.int .i64 a0_3] 35 (0,0)) BK338.out) : gb338 ≠ gb372));have n9_:=Ak ((by rw [hg];exact Nat.ne_of_gt (blk_lt (g:=gb338) (o:=.cells #[.int .i64 a0_0,.int .i64 a0_1,.int .i64 a0_2,.int .i64 a0_3] 35 (0,0)) BK338.out) : gb372 ≠ gb338));have n10_:=Ak ((by rw [hg];exact Nat.ne_of_lt (blk_lt (g:=gb339) (o:=.cells #[.int .i64 a1_0,.int .i64 a1_1,.int .i64 a1_2,.int .i64 a1_3] 35 (0,0)) BK339.out) : gb339 ≠ gb372));have n11_:=Ak ((by rw [hg];exact Nat.ne_of_gt (blk_lt (g:=gb339) (o:=.cells #[.int .i64 a1_0,.int .i64 a1_1,.int .i64 a1_2,.int .i64 a1_3] 35 (0,0)) BK339.out) : gb372 ≠ gb339));have n12_:=Ak ((by rw [hg];exact Nat.ne_of_lt (blk_lt (g:=gb340) (o:=.cells #[.int .i64 a2_0,.int .i64 a2_1,.int .i64 a2_2,.int .i64 a2_3] 35 (0,0)) BK340.out) : gb340 ≠ gb372));have n13_:=Ak ((by rw [hg];exact Nat.ne_of_gt (blk_lt (g:=gb340) (o:=.cells #[.int .i64 a2_0,.int .i64 a2_1,.int .i64 a2_2,.int .i64 a2_3] 35 (0,0)) BK340.out) : gb372 ≠ gb340));have n14_:=Ak ((by rw [hg];exact Nat.ne_of_lt (blk_lt (g:=gb346) (o:=.cells #[.int .i64 t342,.int .i64 t343,.int .i64 t344,.int .i64 t345] 35 (0,0)) BK346.out) : gb346 ≠ gb372));have n15_:=Ak ((by rw [hg];exact Nat.ne_of_gt (blk_lt (g:=gb346) (o:=.cells #[.int .i64 t342,.int .i64 t343,.int .i64 t344,.int .i64 t345] 35 (0,0)) BK346.out) : gb372 ≠ gb346));clear BK338;clear BK339;clear BK340;clear BK346;clear HB;have BK338:=n0_;have BK339:=n1_;have BK340:=n2_;have BK346:=n3_;have HB:=n4_;have BK372:=n5_;have GW372:=n6_;have GE372:=n7_;have NB338_372:=n8_;have NB372_338:=n9_;have NB339_372:=n10_;have NB372_339:=n11_;have NB340_372:=n12_;have NB372_340:=n13_;have NB346_372:=n14_;have NB372_346:=n15_;clear n0_ n1_ n2_ n3_ n4_ n5_ n6_ n7_ n8_ n9_ n10_ n11_ n12_ n13_ n14_ n15_;clear hb hbox hg)|((with_reducible refine gate_dst (N:=9) rfl ?_);refine box_event ?hg (N:=9) ?hd (cs:=#[.int .u64 0,.int .u64 0]) (t:=25) ?hr ?_;(case hd => rfl);(case hg => rfl);(case hr => first|(go_simp;done)|(go_simp;rfl));intro gb373 hg w171 hbox hb;have n0_:=Kb BK338 hb;have n1_:=Kb BK339 hb;have n2_:=Kb BK340 hb;have n3_:=Kb BK346 hb;have n4_:=Kb BK372 hb;have n5_:=Kh HB hb;have n6_:=Ak (hbox);have n7_:=Ak ((by rw [hg];exact (below_size HB.out) : w.heap.size ≤ gb373));have n8_:=Ak ((by rw [hg];exact (below_size HB.out) : w.heap.size ≤ gb373));have n9_:=Ak ((by rw [hg];exact Nat.ne_of_lt (blk_lt (g:=gb338) (o:=.cells #[.int .i64 a0_0,.int .i64 a0_1,.int .i64 a0_2,.int .i64 a0_3] 35 (0,0)) BK338.out) : gb338 ≠ gb373));have n10_:=Ak ((by rw [hg];exact Nat.ne_of_gt (blk_lt (g:=gb338) (o:=.cells #[.int .i64 a0_0,.int .i64 a0_1,.int .i64 a0_2,.int .i64 a0_3] 35 (0,0)) BK338.out) : gb373 ≠ gb338));have n11_:=Ak ((by rw [hg];exact Nat.ne_of_lt (blk_lt (g:=gb339) (o:=.cells #[.int .i64 a1_0,.int .i64 a1_1,.int .i64 a1_2,.int .i64 a1_3] 35 (0,0)) BK339.out) : gb339 ≠ gb373));have n12_:=Ak ((by rw [hg];exact Nat.ne_of_gt (blk_lt (g:=gb339) (o:=.cells #[.int .i64 a1_0,.int .i64 a1_1,.int .i64 a1_2,.int .i64 a1_3] 35 (0,0)) BK339.out) : gb373 ≠ gb339));have n13_:=Ak ((by rw [hg];exact Nat.ne_of_lt (blk_lt (g:=gb340) (o:=.cells #[.int .i64 a2_0,.int .i64 a2_1,.int .i64 a2_2,.int .i64 a2_3] 35 (0,0)) BK340.out) : gb340 ≠ gb373));have n14_:=Ak ((by rw [hg];exact Nat.ne_of_gt (blk_lt (g:=gb340) (o:=.cells #[.int .i64 a2_0,.int .i64 a2_1,.int .i64 a2_2,.int .i64 a2_3] 35 (0,0)) BK340.out) : gb373 ≠ gb340));have n15_:=Ak ((by rw [hg];exact Nat.ne_of_lt (blk_lt (g:=gb346) (o:=.cells #[.int .i64 t342,.int .i64 t343,.int .i64 t344,.int .i64 t345] 35 (0,0)) BK346.out) : gb346 ≠ gb373));have n16_:=Ak ((by rw [hg];exact Nat.ne_of_gt (blk_lt (g:=gb346) (o:=.cells #[.int .i64 t342,.int .i64 t343,.int .i64 t344,.int .i64 t345] 35 (0,0)) BK346.out) : gb373 ≠ gb346));have n17_:=Ak ((by rw [hg];exact Nat.ne_of_lt (blk_lt (g:=gb372) (o:=.cells #[.int .u64 0,.int .u64 0] 25 (0,0)) BK372.out) : gb372 ≠ gb373));have n18_:=Ak ((by rw [hg];exact Nat.ne_of_gt (blk_lt (g:=gb372) (o:=.cells #[.int .u64 0,.int .u64 0] 25 (0,0)) BK372.out) : gb373 ≠ gb372));clear BK338;clear BK339;clear BK340;clear BK346;clear BK372;clear HB;have BK338:=n0_;have BK339:=n1_;have BK340:=n2_;have BK346:=n3_;have BK372:=n4_;have HB:=n5_;have BK373:=n6_;have GW373:=n7_;have GE373:=n8_;have NB338_373:=n9_;have NB373_338:=n10_;have NB339_373:=n11_;have NB373_339:=n12_;have NB340_373:=n13_;have NB373_340:=n14_;have NB346_373:=n15_;have NB373_346:=n16_;have NB372_373:=n17_;have NB373_372:=n18_;clear n0_ n1_ n2_ n3_ n4_ n5_ n6_ n7_ n8_ n9_ n10_ n11_ n12_ n13_ n14_ n15_ n16_ n17_ n18_;clear hb hbox hg;have hnb172:=NB372_338.out;have hnc172:=NB338_372.out;have hnb173:=NB372_339.out;have hnc173:=NB339_372.out;have hnb174:=NB372_340.out;have hnc174:=NB340_372.out;have hnb175:=NB372_346.out;have hnc175:=NB346_372.out;have hnb176:=NB372_373.out;have hnc176:=NB373_372.out;have hcz177_0 : w171.cell? ⟨gb372,0,none⟩ = some (.int .u64 0):=(kC BK372.out 0).trans rfl;have hcz177_1 : w171.cell? ⟨gb372,1,none⟩ = some (.int .u64 0):=(kC BK372.out 1).trans rfl;have hfz177_0:=blk_frozen BK372.out 0;have hfz177_1:=blk_frozen BK372.out 1;have hnb178:=NB373_338.out;have hnc178:=NB338_373.out;have hnb179:=NB373_339.out;have hnc179:=NB339_373.out;have hnb180:=NB373_340.out;have hnc180:=NB340_373.out;have hnb181:=NB373_346.out;have hnc181:=NB346_373.out;have hcz182_0 : w171.cell? ⟨gb373,0,none⟩ = some (.int .u64 0):=(kC BK373.out 0).trans rfl;have hcz182_1 : w171.cell? ⟨gb373,1,none⟩ = some (.int .u64 0):=(kC BK373.out 1).trans rfl;have hfz182_0:=blk_frozen BK373.out 0;have hfz182_1:=blk_frozen BK373.out 1))
           go_ret
           exact ⟨by first|rfl|(simp [errW_none,errW_some] <;> rfl)|(simp [*,errW_none,errW_some] <;> rfl),by repeat (first|(with_reducible first|exact HB.out|apply bA|apply bN|apply bD|refine bS ?_ GE338.out|refine bS ?_ GE339.out|refine bS ?_ GE340.out|refine bS ?_ GE346.out|refine bS ?_ GE372.out|refine bS ?_ GE373.out)|exact HB.out)⟩
          ·rw [if_neg c154] at H
           have c154b0 : (t368 == 0 && (t369 == 0)) = false:=by simpa using c154
           (try (have c154b1 : decide (t368 = 0 && (t369 == 0)) = false:=by simpa using c154))
           (try (have c154b2 : (t368 == 0 && (t369 == 0)) = false:=by simpa using c154))
           (try (have c154b3 : ¬ (t368 = 0 && (t369 == 0)):=by simpa using c154))
           clear c154
           obtain rfl:=Option.some.inj H
           have hnb183:=NB340_338.out
           have hnc183:=NB338_340.out
           have hnb184:=NB340_339.out
           have hnc184:=NB339_340.out
           have hnb185:=NB340_346.out
           have hnc185:=NB346_340.out
           have hcz186_0 : wc.cell? ⟨gb340,0,none⟩ = some (.int .i64 a2_0):=(kC BK340.out 0).trans rfl
           have hcz186_1 : wc.cell? ⟨gb340,1,none⟩ = some (.int .i64 a2_1):=(kC BK340.out 1).trans rfl
           have hcz186_2 : wc.cell? ⟨gb340,2,none⟩ = some (.int .i64 a2_2):=(kC BK340.out 2).trans rfl
           have hcz186_3 : wc.cell? ⟨gb340,3,none⟩ = some (.int .i64 a2_3):=(kC BK340.out 3).trans rfl
           have hfz186_0:=blk_frozen BK340.out 0
           have hfz186_1:=blk_frozen BK340.out 1
           have hfz186_2:=blk_frozen BK340.out 2
           have hfz186_3:=blk_frozen BK340.out 3
           have hnb187:=NB338_339.out
           have hnc187:=NB339_338.out
           have hnb188:=NB338_346.out
           have hnc188:=NB346_338.out
           have hcz189_0 : wc.cell? ⟨gb338,0,none⟩ = some (.int .i64 a0_0):=(kC BK338.out 0).trans rfl
           have hcz189_1 : wc.cell? ⟨gb338,1,none⟩ = some (.int .i64 a0_1):=(kC BK338.out 1).trans rfl
           have hcz189_2 : wc.cell? ⟨gb338,2,none⟩ = some (.int .i64 a0_2):=(kC BK338.out 2).trans rfl
           have hcz189_3 : wc.cell? ⟨gb338,3,none⟩ = some (.int .i64 a0_3):=(kC BK338.out 3).trans rfl
           have hfz189_0:=blk_frozen BK338.out 0
           have hfz189_1:=blk_frozen BK338.out 1
           have hfz189_2:=blk_frozen BK338.out 2
           have hfz189_3:=blk_frozen BK338.out 3
           go_wp2_with (first|((with_reducible refine gate_callee (f:=35) rfl ?_);refine goesL_ (some 52) rfl rfl Try.func35 (by kernel_rfl) rfl #[.agg #[.int .i64 a2_0,.int .i64 a2_1,.int .i64 a2_2,.int .i64 a2_3],.agg #[.int .i64 a0_0,.int .i64 a0_1,.int .i64 a0_2,.int .i64 a0_3]] rfl (by (try simp only [List.map_toArray,List.map_cons,List.map_nil]);first|done|rfl|(simp only [List.length_drop,List.length_take];rfl)) ?_;(with_reducible refine (key_Covers.calls a2_0 a2_1 a2_2 a2_3 a0_0 a0_1 a0_2 a0_3 true _ A68.out).mono ?_);rintro e w190 ⟨rfl,hb⟩;refine ⟨_,rfl,?_⟩;have n0_:=Kb BK338 hb;have n1_:=Kb BK339 hb;have n2_:=Kb BK340 hb;have n3_:=Kb BK346 hb;have n4_:=Kh HB hb;clear BK338;clear BK339;clear BK340;clear BK346;clear HB;have BK338:=n0_;have BK339:=n1_;have BK340:=n2_;have BK346:=n3_;have HB:=n4_;clear n0_ n1_ n2_ n3_ n4_;(try clear hb);(try clear hb2);(try clear hk);(try clear hi);have hcz191_0 : w190.cell? ⟨gb340,0,none⟩ = some (.int .i64 a2_0):=(kC BK340.out 0).trans rfl;have hcz191_1 : w190.cell? ⟨gb340,1,none⟩ = some (.int .i64 a2_1):=(kC BK340.out 1).trans rfl;have hcz191_2 : w190.cell? ⟨gb340,2,none⟩ = some (.int .i64 a2_2):=(kC BK340.out 2).trans rfl;have hcz191_3 : w190.cell? ⟨gb340,3,none⟩ = some (.int .i64 a2_3):=(kC BK340.out 3).trans rfl;have hfz191_0:=blk_frozen BK340.out 0;have hfz191_1:=blk_frozen BK340.out 1;have hfz191_2:=blk_frozen BK340.out 2;have hfz191_3:=blk_frozen BK340.out 3;have hnb192:=NB339_346.out;have hnc192:=NB346_339.out;have hcz193_0 : w190.cell? ⟨gb339,0,none⟩ = some (.int .i64 a1_0):=(kC BK339.out 0).trans rfl;have hcz193_1 : w190.cell? ⟨gb339,1,none⟩ = some (.int .i64 a1_1):=(kC BK339.out 1).trans rfl;have hcz193_2 : w190.cell? ⟨gb339,2,none⟩ = some (.int .i64 a1_2):=(kC BK339.out 2).trans rfl;have hcz193_3 : w190.cell? ⟨gb339,3,none⟩ = some (.int .i64 a1_3):=(kC BK339.out 3).trans rfl;have hfz193_0:=blk_frozen BK339.out 0;have hfz193_1:=blk_frozen BK339.out 1;have hfz193_2:=blk_frozen BK339.out 2;have hfz193_3:=blk_frozen BK339.out 3)|(go_at_call 35;(with_reducible refine (key_Covers.calls a2_0 a2_1 a2_2 a2_3 a1_0 a1_1 a1_2 a1_3 false _ A70.out).mono ?_);rintro e w194 ⟨rfl,hb⟩;have n0_:=Kb BK338 hb;have n1_:=Kb BK339 hb;have n2_:=Kb BK340 hb;have n3_:=Kb BK346 hb;have n4_:=Kh HB hb;clear BK338;clear BK339;clear BK340;clear BK346;clear HB;have BK338:=n0_;have BK339:=n1_;have BK340:=n2_;have BK346:=n3_;have HB:=n4_;clear n0_ n1_ n2_ n3_ n4_;(try clear hb);(try clear hb2);(try clear hk);(try clear hi);have hcz195_0 : w194.cell? ⟨gb346,0,none⟩ = some (.int .i64 t342):=(kC BK346.out 0).trans rfl;have hcz195_1 : w194.cell? ⟨gb346,1,none⟩ = some (.int .i64 t343):=(kC BK346.out 1).trans rfl;have hcz195_2 : w194.cell? ⟨gb346,2,none⟩ = some (.int .i64 t344):=(kC BK346.out 2).trans rfl;have hcz195_3 : w194.cell? ⟨gb346,3,none⟩ = some (.int .i64 t345):=(kC BK346.out 3).trans rfl;have hfz195_0:=blk_frozen BK346.out 0;have hfz195_1:=blk_frozen BK346.out 1;have hfz195_2:=blk_frozen BK346.out 2;have hfz195_3:=blk_frozen BK346.out 3;have hcz196_0 : w194.cell? ⟨gb338,0,none⟩ = some (.int .i64 a0_0):=(kC BK338.out 0).trans rfl;have hcz196_1 : w194.cell? ⟨gb338,1,none⟩ = some (.int .i64 a0_1):=(kC BK338.out 1).trans rfl;have hcz196_2 : w194.cell? ⟨gb338,2,none⟩ = some (.int .i64 a0_2):=(kC BK338.out 2).trans rfl;have hcz196_3 : w194.cell? ⟨gb338,3,none⟩ = some (.int .i64 a0_3):=(kC BK338.out 3).trans rfl;have hfz196_0:=blk_frozen BK338.out 0;have hfz196_1:=blk_frozen BK338.out 1;have hfz196_2:=blk_frozen BK338.out 2;have hfz196_3:=blk_frozen BK338.out 3)|((with_reducible refine gate_callee (f:=36) rfl ?_);refine goesL_ (some 67) rfl rfl Try.func36 (by kernel_rfl) rfl #[.agg #[.int .i64 t342,.int .i64 t343,.int .i64 t344,.int .i64 t345],.agg #[.int .i64 a0_0,.int .i64 a0_1,.int .i64 a0_2,.int .i64 a0_3]] rfl (by (try simp only [List.map_toArray,List.map_cons,List.map_nil]);first|done|rfl|(simp only [List.length_drop,List.length_take];rfl)) ?_;(with_reducible refine (key_Grows.calls t342 t343 t344 t345 a0_0 a0_1 a0_2 a0_3 t368 t369 t370 t371 _ A153.out).mono ?_);rintro e w197 ⟨rfl,hb⟩;refine ⟨_,rfl,?_⟩;have n0_:=Kb BK338 hb;have n1_:=Kb BK339 hb;have n2_:=Kb BK340 hb;have n3_:=Kb BK346 hb;have n4_:=Kh HB hb;clear BK338;clear BK339;clear BK340;clear BK346;clear HB;have BK338:=n0_;have BK339:=n1_;have BK340:=n2_;have BK346:=n3_;have HB:=n4_;clear n0_ n1_ n2_ n3_ n4_;(try clear hb);(try clear hb2);(try clear hk);(try clear hi))|((with_reducible refine gate_dst (N:=8) rfl ?_);refine box_event ?hg (N:=8) ?hd (cs:=#[.int .u64 0,.int .u64 0]) (t:=25) ?hr ?_;(case hd => rfl);(case hg => rfl);(case hr => first|(go_simp;done)|(go_simp;rfl));intro gb372 hg w198 hbox hb;have n0_:=Kb BK338 hb;have n1_:=Kb BK339 hb;have n2_:=Kb BK340 hb;have n3_:=Kb BK346 hb;have n4_:=Kh HB hb;have n5_:=Ak (hbox);have n6_:=Ak ((by rw [hg];exact (below_size HB.out) : w.heap.size ≤ gb372));have n7_:=Ak ((by rw [hg];exact (below_size HB.out) : w.heap.size ≤ gb372));have n8_:=Ak ((by rw [hg];exact Nat.ne_of_lt (blk_lt (g:=gb338) (o:=.cells #[.int .i64 a0_0,.int .i64 a0_1,.int .i64 a0_2,.int .i64 a0_3] 35 (0,0)) BK338.out) : gb338 ≠ gb372));have n9_:=Ak ((by rw [hg];exact Nat.ne_of_gt (blk_lt (g:=gb338) (o:=.cells #[.int .i64 a0_0,.int .i64 a0_1,.int .i64 a0_2,.int .i64 a0_3] 35 (0,0)) BK338.out) : gb372 ≠ gb338));have n10_:=Ak ((by rw [hg];exact Nat.ne_of_lt (blk_lt (g:=gb339) (o:=.cells #[.int .i64 a1_0,.int .i64 a1_1,.int .i64 a1_2,.int .i64 a1_3] 35 (0,0)) BK339.out) : gb339 ≠ gb372));have n11_:=Ak ((by rw [hg];exact Nat.ne_of_gt (blk_lt (g:=gb339) (o:=.cells #[.int .i64 a1_0,.int .i64 a1_1,.int .i64 a1_2,.int .i64 a1_3] 35 (0,0)) BK339.out) : gb372 ≠ gb339));have n12_:=Ak ((by rw [hg];exact Nat.ne_of_lt (blk_lt (g:=gb340) (o:=.cells #[.int .i64 a2_0,.int .i64 a2_1,.int .i64 a2_2,.int .i64 a2_3] 35 (0,0)) BK340.out) : gb340 ≠ gb372));have n13_:=Ak ((by rw [hg];exact Nat.ne_of_gt (blk_lt (g:=gb340) (o:=.cells #[.int .i64 a2_0,.int .i64 a2_1,.int .i64 a2_2,.int .i64 a2_3] 35 (0,0)) BK340.out) : gb372 ≠ gb340));have n14_:=Ak ((by rw [hg];exact Nat.ne_of_lt (blk_lt (g:=gb346) (o:=.cells #[.int .i64 t342,.int .i64 t343,.int .i64 t344,.int .i64 t345] 35 (0,0)) BK346.out) : gb346 ≠ gb372));have n15_:=Ak ((by rw [hg];exact Nat.ne_of_gt (blk_lt (g:=gb346) (o:=.cells #[.int .i64 t342,.int .i64 t343,.int .i64 t344,.int .i64 t345] 35 (0,0)) BK346.out) : gb372 ≠ gb346));clear BK338;clear BK339;clear BK340;clear BK346;clear HB;have BK338:=n0_;have BK339:=n1_;have BK340:=n2_;have BK346:=n3_;have HB:=n4_;have BK372:=n5_;have GW372:=n6_;have GE372:=n7_;have NB338_372:=n8_;have NB372_338:=n9_;have NB339_372:=n10_;have NB372_339:=n11_;have NB340_372:=n12_;have NB372_340:=n13_;have NB346_372:=n14_;have NB372_346:=n15_;clear n0_ n1_ n2_ n3_ n4_ n5_ n6_ n7_ n8_ n9_ n10_ n11_ n12_ n13_ n14_ n15_;clear hb hbox hg)|((with_reducible refine gate_dst (N:=9) rfl ?_);refine box_event ?hg (N:=9) ?hd (cs:=#[.int .u64 0,.int .u64 0]) (t:=25) ?hr ?_;(case hd => rfl);(case hg => rfl);(case hr => first|(go_simp;done)|(go_simp;rfl));intro gb373 hg w199 hbox hb;have n0_:=Kb BK338 hb;have n1_:=Kb BK339 hb;have n2_:=Kb BK340 hb;have n3_:=Kb BK346 hb;have n4_:=Kb BK372 hb;have n5_:=Kh HB hb;have n6_:=Ak (hbox);have n7_:=Ak ((by rw [hg];exact (below_size HB.out) : w.heap.size ≤ gb373));have n8_:=Ak ((by rw [hg];exact (below_size HB.out) : w.heap.size ≤ gb373));have n9_:=Ak ((by rw [hg];exact Nat.ne_of_lt (blk_lt (g:=gb338) (o:=.cells #[.int .i64 a0_0,.int .i64 a0_1,.int .i64 a0_2,.int .i64 a0_3] 35 (0,0)) BK338.out) : gb338 ≠ gb373));have n10_:=Ak ((by rw [hg];exact Nat.ne_of_gt (blk_lt (g:=gb338) (o:=.cells #[.int .i64 a0_0,.int .i64 a0_1,.int .i64 a0_2,.int .i64 a0_3] 35 (0,0)) BK338.out) : gb373 ≠ gb338));have n11_:=Ak ((by rw [hg];exact Nat.ne_of_lt (blk_lt (g:=gb339) (o:=.cells #[.int .i64 a1_0,.int .i64 a1_1,.int .i64 a1_2,.int .i64 a1_3] 35 (0,0)) BK339.out) : gb339 ≠ gb373));have n12_:=Ak ((by rw [hg];exact Nat.ne_of_gt (blk_lt (g:=gb339) (o:=.cells #[.int .i64 a1_0,.int .i64 a1_1,.int .i64 a1_2,.int .i64 a1_3] 35 (0,0)) BK339.out) : gb373 ≠ gb339));have n13_:=Ak ((by rw [hg];exact Nat.ne_of_lt (blk_lt (g:=gb340) (o:=.cells #[.int .i64 a2_0,.int .i64 a2_1,.int .i64 a2_2,.int .i64 a2_3] 35 (0,0)) BK340.out) : gb340 ≠ gb373));have n14_:=Ak ((by rw [hg];exact Nat.ne_of_gt (blk_lt (g:=gb340) (o:=.cells #[.int .i64 a2_0,.int .i64 a2_1,.int .i64 a2_2,.int .i64 a2_3] 35 (0,0)) BK340.out) : gb373 ≠ gb340));have n15_:=Ak ((by rw [hg];exact Nat.ne_of_lt (blk_lt (g:=gb346) (o:=.cells #[.int .i64 t342,.int .i64 t343,.int .i64 t344,.int .i64 t345] 35 (0,0)) BK346.out) : gb346 ≠ gb373));have n16_:=Ak ((by rw [hg];exact Nat.ne_of_gt (blk_lt (g:=gb346) (o:=.cells #[.int .i64 t342,.int .i64 t343,.int .i64 t344,.int .i64 t345] 35 (0,0)) BK346.out) : gb373 ≠ gb346));have n17_:=Ak ((by rw [hg];exact Nat.ne_of_lt (blk_lt (g:=gb372) (o:=.cells #[.int .u64 0,.int .u64 0] 25 (0,0)) BK372.out) : gb372 ≠ gb373));have n18_:=Ak ((by rw [hg];exact Nat.ne_of_gt (blk_lt (g:=gb372) (o:=.cells #[.int .u64 0,.int .u64 0] 25 (0,0)) BK372.out) : gb373 ≠ gb372));clear BK338;clear BK339;clear BK340;clear BK346;clear BK372;clear HB;have BK338:=n0_;have BK339:=n1_;have BK340:=n2_;have BK346:=n3_;have BK372:=n4_;have HB:=n5_;have BK373:=n6_;have GW373:=n7_;have GE373:=n8_;have NB338_373:=n9_;have NB373_338:=n10_;have NB339_373:=n11_;have NB373_339:=n12_;have NB340_373:=n13_;have NB373_340:=n14_;have NB346_373:=n15_;have NB373_346:=n16_;have NB372_373:=n17_;have NB373_372:=n18_;clear n0_ n1_ n2_ n3_ n4_ n5_ n6_ n7_ n8_ n9_ n10_ n11_ n12_ n13_ n14_ n15_ n16_ n17_ n18_;clear hb hbox hg;have hnb200:=NB372_338.out;have hnc200:=NB338_372.out;have hnb201:=NB372_339.out;have hnc201:=NB339_372.out;have hnb202:=NB372_340.out;have hnc202:=NB340_372.out;have hnb203:=NB372_346.out;have hnc203:=NB346_372.out;have hnb204:=NB372_373.out;have hnc204:=NB373_372.out;have hcz205_0 : w199.cell? ⟨gb372,0,none⟩ = some (.int .u64 0):=(kC BK372.out 0).trans rfl;have hcz205_1 : w199.cell? ⟨gb372,1,none⟩ = some (.int .u64 0):=(kC BK372.out 1).trans rfl;have hfz205_0:=blk_frozen BK372.out 0;have hfz205_1:=blk_frozen BK372.out 1;have hnb206:=NB373_338.out;have hnc206:=NB338_373.out;have hnb207:=NB373_339.out;have hnc207:=NB339_373.out;have hnb208:=NB373_340.out;have hnc208:=NB340_373.out;have hnb209:=NB373_346.out;have hnc209:=NB346_373.out;have hcz210_0 : w199.cell? ⟨gb373,0,none⟩ = some (.int .u64 0):=(kC BK373.out 0).trans rfl;have hcz210_1 : w199.cell? ⟨gb373,1,none⟩ = some (.int .u64 0):=(kC BK373.out 1).trans rfl;have hfz210_0:=blk_frozen BK373.out 0;have hfz210_1:=blk_frozen BK373.out 1))
           go_ret
           exact ⟨by first|rfl|(simp [errW_none,errW_some] <;> rfl)|(simp [*,errW_none,errW_some] <;> rfl),by repeat (first|(with_reducible first|exact HB.out|apply bA|apply bN|apply bD|refine bS ?_ GE338.out|refine bS ?_ GE339.out|refine bS ?_ GE340.out|refine bS ?_ GE346.out|refine bS ?_ GE372.out|refine bS ?_ GE373.out)|exact HB.out)⟩
        ·replace c69:=Bool.eq_false_iff.mpr c69
         subst c69
         have H1 : ((key_Grows.f t342 t343 t344 t345 a0_0 a0_1 a0_2 a0_3).bind fun bt374 => (if (bt374.1 == 0 && (bt374.2.1 == 0)) = true then (some (bt374.2.2.1 == 0 && (bt374.2.2.2 == 0))) else (some false))) = some r:=by rw [if_neg (show ¬ (false = true) by decide)] at H;exact H
         clear H
         have H:=H1
         clear H1
         replace H:=Option.bind_eq_some_iff.mp H
         obtain ⟨⟨t374,t375,t376,t377⟩,A2110,H⟩:=H
         replace H : (if (t374 == 0 && (t375 == 0)) = true then (some (t376 == 0 && (t377 == 0))) else (some false)) = some r:=H
         have A211:=Ak A2110
         clear A2110
         by_cases c212 : (t374 == 0 && (t375 == 0)) = true
         ·rw [if_pos c212] at H
          have c212b0 : (t374 == 0 && (t375 == 0)) = true:=c212
          (try (have c212b1 : decide (t374 = 0 && (t375 == 0)) = true:=by simpa using c212))
          (try (have c212b2 : (t374 == 0 && (t375 == 0)) = true:=by simpa using c212))
          clear c212
          obtain rfl:=Option.some.inj H
          have hnb213:=NB340_338.out
          have hnc213:=NB338_340.out
          have hnb214:=NB340_339.out
          have hnc214:=NB339_340.out
          have hnb215:=NB340_346.out
          have hnc215:=NB346_340.out
          have hcz216_0 : wc.cell? ⟨gb340,0,none⟩ = some (.int .i64 a2_0):=(kC BK340.out 0).trans rfl
          have hcz216_1 : wc.cell? ⟨gb340,1,none⟩ = some (.int .i64 a2_1):=(kC BK340.out 1).trans rfl
          have hcz216_2 : wc.cell? ⟨gb340,2,none⟩ = some (.int .i64 a2_2):=(kC BK340.out 2).trans rfl
          have hcz216_3 : wc.cell? ⟨gb340,3,none⟩ = some (.int .i64 a2_3):=(kC BK340.out 3).trans rfl
          have hfz216_0:=blk_frozen BK340.out 0
          have hfz216_1:=blk_frozen BK340.out 1
          have hfz216_2:=blk_frozen BK340.out 2
          have hfz216_3:=blk_frozen BK340.out 3
          have hnb217:=NB338_339.out
          have hnc217:=NB339_338.out
          have hnb218:=NB338_346.out
          have hnc218:=NB346_338.out
          have hcz219_0 : wc.cell? ⟨gb338,0,none⟩ = some (.int .i64 a0_0):=(kC BK338.out 0).trans rfl
          have hcz219_1 : wc.cell? ⟨gb338,1,none⟩ = some (.int .i64 a0_1):=(kC BK338.out 1).trans rfl
          have hcz219_2 : wc.cell? ⟨gb338,2,none⟩ = some (.int .i64 a0_2):=(kC BK338.out 2).trans rfl
          have hcz219_3 : wc.cell? ⟨gb338,3,none⟩ = some (.int .i64 a0_3):=(kC BK338.out 3).trans rfl
          have hfz219_0:=blk_frozen BK338.out 0
          have hfz219_1:=blk_frozen BK338.out 1
          have hfz219_2:=blk_frozen BK338.out 2
          have hfz219_3:=blk_frozen BK338.out 3
          go_wp2_with (first|((with_reducible refine gate_callee (f:=35) rfl ?_);refine goesL_ (some 52) rfl rfl Try.func35 (by kernel_rfl) rfl #[.agg #[.int .i64 a2_0,.int .i64 a2_1,.int .i64 a2_2,.int .i64 a2_3],.agg #[.int .i64 a0_0,.int .i64 a0_1,.int .i64 a0_2,.int .i64 a0_3]] rfl (by (try simp only [List.map_toArray,List.map_cons,List.map_nil]);first|done|rfl|(simp only [List.length_drop,List.length_take];rfl)) ?_;(with_reducible refine (key_Covers.calls a2_0 a2_1 a2_2 a2_3 a0_0 a0_1 a0_2 a0_3 false _ A68.out).mono ?_);rintro e w220 ⟨rfl,hb⟩;refine ⟨_,rfl,?_⟩;have n0_:=Kb BK338 hb;have n1_:=Kb BK339 hb;have n2_:=Kb BK340 hb;have n3_:=Kb BK346 hb;have n4_:=Kh HB hb;clear BK338;clear BK339;clear BK340;clear BK346;clear HB;have BK338:=n0_;have BK339:=n1_;have BK340:=n2_;have BK346:=n3_;have HB:=n4_;clear n0_ n1_ n2_ n3_ n4_;(try clear hb);(try clear hb2);(try clear hk);(try clear hi);have hnb221:=NB346_339.out;have hnc221:=NB339_346.out;have hcz222_0 : w220.cell? ⟨gb346,0,none⟩ = some (.int .i64 t342):=(kC BK346.out 0).trans rfl;have hcz222_1 : w220.cell? ⟨gb346,1,none⟩ = some (.int .i64 t343):=(kC BK346.out 1).trans rfl;have hcz222_2 : w220.cell? ⟨gb346,2,none⟩ = some (.int .i64 t344):=(kC BK346.out 2).trans rfl;have hcz222_3 : w220.cell? ⟨gb346,3,none⟩ = some (.int .i64 t345):=(kC BK346.out 3).trans rfl;have hfz222_0:=blk_frozen BK346.out 0;have hfz222_1:=blk_frozen BK346.out 1;have hfz222_2:=blk_frozen BK346.out 2;have hfz222_3:=blk_frozen BK346.out 3;have hcz223_0 : w220.cell? ⟨gb338,0,none⟩ = some (.int .i64 a0_0):=(kC BK338.out 0).trans rfl;have hcz223_1 : w220.cell? ⟨gb338,1,none⟩ = some (.int .i64 a0_1):=(kC BK338.out 1).trans rfl;have hcz223_2 : w220.cell? ⟨gb338,2,none⟩ = some (.int .i64 a0_2):=(kC BK338.out 2).trans rfl;have hcz223_3 : w220.cell? ⟨gb338,3,none⟩ = some (.int .i64 a0_3):=(kC BK338.out 3).trans rfl;have hfz223_0:=blk_frozen BK338.out 0;have hfz223_1:=blk_frozen BK338.out 1;have hfz223_2:=blk_frozen BK338.out 2;have hfz223_3:=blk_frozen BK338.out 3)|((with_reducible refine gate_callee (f:=36) rfl ?_);refine goesL_ (some 67) rfl rfl Try.func36 (by kernel_rfl) rfl #[.agg #[.int .i64 t342,.int .i64 t343,.int .i64 t344,.int .i64 t345],.agg #[.int .i64 a0_0,.int .i64 a0_1,.int .i64 a0_2,.int .i64 a0_3]] rfl (by (try simp only [List.map_toArray,List.map_cons,List.map_nil]);first|done|rfl|(simp only [List.length_drop,List.length_take];rfl)) ?_;(with_reducible refine (key_Grows.calls t342 t343 t344 t345 a0_0 a0_1 a0_2 a0_3 t374 t375 t376 t377 _ A211.out).mono ?_);rintro e w224 ⟨rfl,hb⟩;refine ⟨_,rfl,?_⟩;have n0_:=Kb BK338 hb;have n1_:=Kb BK339 hb;have n2_:=Kb BK340 hb;have n3_:=Kb BK346 hb;have n4_:=Kh HB hb;clear BK338;clear BK339;clear BK340;clear BK346;clear HB;have BK338:=n0_;have BK339:=n1_;have BK340:=n2_;have BK346:=n3_;have HB:=n4_;clear n0_ n1_ n2_ n3_ n4_;(try clear hb);(try clear hb2);(try clear hk);(try clear hi))|((with_reducible refine gate_dst (N:=8) rfl ?_);refine box_event ?hg (N:=8) ?hd (cs:=#[.int .u64 0,.int .u64 0]) (t:=25) ?hr ?_;(case hd => rfl);(case hg => rfl);(case hr => first|(go_simp;done)|(go_simp;rfl));intro gb378 hg w225 hbox hb;have n0_:=Kb BK338 hb;have n1_:=Kb BK339 hb;have n2_:=Kb BK340 hb;have n3_:=Kb BK346 hb;have n4_:=Kh HB hb;have n5_:=Ak (hbox);have n6_:=Ak ((by rw [hg];exact (below_size HB.out) : w.heap.size ≤ gb378));have n7_:=Ak ((by rw [hg];exact (below_size HB.out) : w.heap.size ≤ gb378));have n8_:=Ak ((by rw [hg];exact Nat.ne_of_lt (blk_lt (g:=gb338) (o:=.cells #[.int .i64 a0_0,.int .i64 a0_1,.int .i64 a0_2,.int .i64 a0_3] 35 (0,0)) BK338.out) : gb338 ≠ gb378));have n9_:=Ak ((by rw [hg];exact Nat.ne_of_gt (blk_lt (g:=gb338) (o:=.cells #[.int .i64 a0_0,.int .i64 a0_1,.int .i64 a0_2,.int .i64 a0_3] 35 (0,0)) BK338.out) : gb378 ≠ gb338));have n10_:=Ak ((by rw [hg];exact Nat.ne_of_lt (blk_lt (g:=gb339) (o:=.cells #[.int .i64 a1_0,.int .i64 a1_1,.int .i64 a1_2,.int .i64 a1_3] 35 (0,0)) BK339.out) : gb339 ≠ gb378));have n11_:=Ak ((by rw [hg];exact Nat.ne_of_gt (blk_lt (g:=gb339) (o:=.cells #[.int .i64 a1_0,.int .i64 a1_1,.int .i64 a1_2,.int .i64 a1_3] 35 (0,0)) BK339.out) : gb378 ≠ gb339));have n12_:=Ak ((by rw [hg];exact Nat.ne_of_lt (blk_lt (g:=gb340) (o:=.cells #[.int .i64 a2_0,.int .i64 a2_1,.int .i64 a2_2,.int .i64 a2_3] 35 (0,0)) BK340.out) : gb340 ≠ gb378));have n13_:=Ak ((by rw [hg];exact Nat.ne_of_gt (blk_lt (g:=gb340) (o:=.cells #[.int .i64 a2_0,.int .i64 a2_1,.int .i64 a2_2,.int .i64 a2_3] 35 (0,0)) BK340.out) : gb378 ≠ gb340));have n14_:=Ak ((by rw [hg];exact Nat.ne_of_lt (blk_lt (g:=gb346) (o:=.cells #[.int .i64 t342,.int .i64 t343,.int .i64 t344,.int .i64 t345] 35 (0,0)) BK346.out) : gb346 ≠ gb378));have n15_:=Ak ((by rw [hg];exact Nat.ne_of_gt (blk_lt (g:=gb346) (o:=.cells #[.int .i64 t342,.int .i64 t343,.int .i64 t344,.int .i64 t345] 35 (0,0)) BK346.out) : gb378 ≠ gb346));clear BK338;clear BK339;clear BK340;clear BK346;clear HB;have BK338:=n0_;have BK339:=n1_;have BK340:=n2_;have BK346:=n3_;have HB:=n4_;have BK378:=n5_;have GW378:=n6_;have GE378:=n7_;have NB338_378:=n8_;have NB378_338:=n9_;have NB339_378:=n10_;have NB378_339:=n11_;have NB340_378:=n12_;have NB378_340:=n13_;have NB346_378:=n14_;have NB378_346:=n15_;clear n0_ n1_ n2_ n3_ n4_ n5_ n6_ n7_ n8_ n9_ n10_ n11_ n12_ n13_ n14_ n15_;clear hb hbox hg)|((with_reducible refine gate_dst (N:=9) rfl ?_);refine box_event ?hg (N:=9) ?hd (cs:=#[.int .u64 0,.int .u64 0]) (t:=25) ?hr ?_;(case hd => rfl);(case hg => rfl);(case hr => first|(go_simp;done)|(go_simp;rfl));intro gb379 hg w226 hbox hb;have n0_:=Kb BK338 hb;have n1_:=Kb BK339 hb;have n2_:=Kb BK340 hb;have n3_:=Kb BK346 hb;have n4_:=Kb BK378 hb;have n5_:=Kh HB hb;have n6_:=Ak (hbox);have n7_:=Ak ((by rw [hg];exact (below_size HB.out) : w.heap.size ≤ gb379));have n8_:=Ak ((by rw [hg];exact (below_size HB.out) : w.heap.size ≤ gb379));have n9_:=Ak ((by rw [hg];exact Nat.ne_of_lt (blk_lt (g:=gb338) (o:=.cells #[.int .i64 a0_0,.int .i64 a0_1,.int .i64 a0_2,.int .i64 a0_3] 35 (0,0)) BK338.out) : gb338 ≠ gb379));have n10_:=Ak ((by rw [hg];exact Nat.ne_of_gt (blk_lt (g:=gb338) (o:=.cells #[.int .i64 a0_0,.int .i64 a0_1,.int .i64 a0_2,.int .i64 a0_3] 35 (0,0)) BK338.out) : gb379 ≠ gb338));have n11_:=Ak ((by rw [hg];exact Nat.ne_of_lt (blk_lt (g:=gb339) (o:=.cells #[.int .i64 a1_0,.int .i64 a1_1,.int .i64 a1_2,.int .i64 a1_3] 35 (0,0)) BK339.out) : gb339 ≠ gb379));have n12_:=Ak ((by rw [hg];exact Nat.ne_of_gt (blk_lt (g:=gb339) (o:=.cells #[.int .i64 a1_0,.int .i64 a1_1,.int .i64 a1_2,.int .i64 a1_3] 35 (0,0)) BK339.out) : gb379 ≠ gb339));have n13_:=Ak ((by rw [hg];exact Nat.ne_of_lt (blk_lt (g:=gb340) (o:=.cells #[.int .i64 a2_0,.int .i64 a2_1,.int .i64 a2_2,.int .i64 a2_3] 35 (0,0)) BK340.out) : gb340 ≠ gb379));have n14_:=Ak ((by rw [hg];exact Nat.ne_of_gt (blk_lt (g:=gb340) (o:=.cells #[.int .i64 a2_0,.int .i64 a2_1,.int .i64 a2_2,.int .i64 a2_3] 35 (0,0)) BK340.out) : gb379 ≠ gb340));have n15_:=Ak ((by rw [hg];exact Nat.ne_of_lt (blk_lt (g:=gb346) (o:=.cells #[.int .i64 t342,.int .i64 t343,.int .i64 t344,.int .i64 t345] 35 (0,0)) BK346.out) : gb346 ≠ gb379));have n16_:=Ak ((by rw [hg];exact Nat.ne_of_gt (blk_lt (g:=gb346) (o:=.cells #[.int .i64 t342,.int .i64 t343,.int .i64 t344,.int .i64 t345] 35 (0,0)) BK346.out) : gb379 ≠ gb346));have n17_:=Ak ((by rw [hg];exact Nat.ne_of_lt (blk_lt (g:=gb378) (o:=.cells #[.int .u64 0,.int .u64 0] 25 (0,0)) BK378.out) : gb378 ≠ gb379));have n18_:=Ak ((by rw [hg];exact Nat.ne_of_gt (blk_lt (g:=gb378) (o:=.cells #[.int .u64 0,.int .u64 0] 25 (0,0)) BK378.out) : gb379 ≠ gb378));clear BK338;clear BK339;clear BK340;clear BK346;clear BK378;clear HB;have BK338:=n0_;have BK339:=n1_;have BK340:=n2_;have BK346:=n3_;have BK378:=n4_;have HB:=n5_;have BK379:=n6_;have GW379:=n7_;have GE379:=n8_;have NB338_379:=n9_;have NB379_338:=n10_;have NB339_379:=n11_;have NB379_339:=n12_;have NB340_379:=n13_;have NB379_340:=n14_;have NB346_379:=n15_;have NB379_346:=n16_;have NB378_379:=n17_;have NB379_378:=n18_;clear n0_ n1_ n2_ n3_ n4_ n5_ n6_ n7_ n8_ n9_ n10_ n11_ n12_ n13_ n14_ n15_ n16_ n17_ n18_;clear hb hbox hg;have hnb227:=NB378_338.out;have hnc227:=NB338_378.out;have hnb228:=NB378_339.out;have hnc228:=NB339_378.out;have hnb229:=NB378_340.out;have hnc229:=NB340_378.out;have hnb230:=NB378_346.out;have hnc230:=NB346_378.out;have hnb231:=NB378_379.out;have hnc231:=NB379_378.out;have hcz232_0 : w226.cell? ⟨gb378,0,none⟩ = some (.int .u64 0):=(kC BK378.out 0).trans rfl;have hcz232_1 : w226.cell? ⟨gb378,1,none⟩ = some (.int .u64 0):=(kC BK378.out 1).trans rfl;have hfz232_0:=blk_frozen BK378.out 0;have hfz232_1:=blk_frozen BK378.out 1;have hnb233:=NB379_338.out;have hnc233:=NB338_379.out;have hnb234:=NB379_339.out;have hnc234:=NB339_379.out;have hnb235:=NB379_340.out;have hnc235:=NB340_379.out;have hnb236:=NB379_346.out;have hnc236:=NB346_379.out;have hcz237_0 : w226.cell? ⟨gb379,0,none⟩ = some (.int .u64 0):=(kC BK379.out 0).trans rfl;have hcz237_1 : w226.cell? ⟨gb379,1,none⟩ = some (.int .u64 0):=(kC BK379.out 1).trans rfl;have hfz237_0:=blk_frozen BK379.out 0;have hfz237_1:=blk_frozen BK379.out 1))
          go_ret
          exact ⟨by first|rfl|(simp [errW_none,errW_some] <;> rfl)|(simp [*,errW_none,errW_some] <;> rfl),by repeat (first|(with_reducible first|exact HB.out|apply bA|apply bN|apply bD|refine bS ?_ GE338.out|refine bS ?_ GE339.out|refine bS ?_ GE340.out|refine bS ?_ GE346.out|refine bS ?_ GE378.out|refine bS ?_ GE379.out)|exact HB.out)⟩
         ·rw [if_neg c212] at H
          have c212b0 : (t374 == 0 && (t375 == 0)) = false:=by simpa using c212
          (try (have c212b1 : decide (t374 = 0 && (t375 == 0)) = false:=by simpa using c212))
          (try (have c212b2 : (t374 == 0 && (t375 == 0)) = false:=by simpa using c212))
          (try (have c212b3 : ¬ (t374 = 0 && (t375 == 0)):=by simpa using c212))
          clear c212
          obtain rfl:=Option.some.inj H
          have hnb238:=NB340_338.out
          have hnc238:=NB338_340.out
          have hnb239:=NB340_339.out
          have hnc239:=NB339_340.out
          have hnb240:=NB340_346.out
          have hnc240:=NB346_340.out
          have hcz241_0 : wc.cell? ⟨gb340,0,none⟩ = some (.int .i64 a2_0):=(kC BK340.out 0).trans rfl
          have hcz241_1 : wc.cell? ⟨gb340,1,none⟩ = some (.int .i64 a2_1):=(kC BK340.out 1).trans rfl
          have hcz241_2 : wc.cell? ⟨gb340,2,none⟩ = some (.int .i64 a2_2):=(kC BK340.out 2).trans rfl
          have hcz241_3 : wc.cell? ⟨gb340,3,none⟩ = some (.int .i64 a2_3):=(kC BK340.out 3).trans rfl
          have hfz241_0:=blk_frozen BK340.out 0
          have hfz241_1:=blk_frozen BK340.out 1
          have hfz241_2:=blk_frozen BK340.out 2
          have hfz241_3:=blk_frozen BK340.out 3
          have hnb242:=NB338_339.out
          have hnc242:=NB339_338.out
          have hnb243:=NB338_346.out
          have hnc243:=NB346_338.out
          have hcz244_0 : wc.cell? ⟨gb338,0,none⟩ = some (.int .i64 a0_0):=(kC BK338.out 0).trans rfl
          have hcz244_1 : wc.cell? ⟨gb338,1,none⟩ = some (.int .i64 a0_1):=(kC BK338.out 1).trans rfl
          have hcz244_2 : wc.cell? ⟨gb338,2,none⟩ = some (.int .i64 a0_2):=(kC BK338.out 2).trans rfl
          have hcz244_3 : wc.cell? ⟨gb338,3,none⟩ = some (.int .i64 a0_3):=(kC BK338.out 3).trans rfl
          have hfz244_0:=blk_frozen BK338.out 0
          have hfz244_1:=blk_frozen BK338.out 1
          have hfz244_2:=blk_frozen BK338.out 2
          have hfz244_3:=blk_frozen BK338.out 3
          go_wp2_with (first|((with_reducible refine gate_callee (f:=35) rfl ?_);refine goesL_ (some 52) rfl rfl Try.func35 (by kernel_rfl) rfl #[.agg #[.int .i64 a2_0,.int .i64 a2_1,.int .i64 a2_2,.int .i64 a2_3],.agg #[.int .i64 a0_0,.int .i64 a0_1,.int .i64 a0_2,.int .i64 a0_3]] rfl (by (try simp only [List.map_toArray,List.map_cons,List.map_nil]);first|done|rfl|(simp only [List.length_drop,List.length_take];rfl)) ?_;(with_reducible refine (key_Covers.calls a2_0 a2_1 a2_2 a2_3 a0_0 a0_1 a0_2 a0_3 false _ A68.out).mono ?_);rintro e w245 ⟨rfl,hb⟩;refine ⟨_,rfl,?_⟩;have n0_:=Kb BK338 hb;have n1_:=Kb BK339 hb;have n2_:=Kb BK340 hb;have n3_:=Kb BK346 hb;have n4_:=Kh HB hb;clear BK338;clear BK339;clear BK340;clear BK346;clear HB;have BK338:=n0_;have BK339:=n1_;have BK340:=n2_;have BK346:=n3_;have HB:=n4_;clear n0_ n1_ n2_ n3_ n4_;(try clear hb);(try clear hb2);(try clear hk);(try clear hi);have hnb246:=NB346_339.out;have hnc246:=NB339_346.out;have hcz247_0 : w245.cell? ⟨gb346,0,none⟩ = some (.int .i64 t342):=(kC BK346.out 0).trans rfl;have hcz247_1 : w245.cell? ⟨gb346,1,none⟩ = some (.int .i64 t343):=(kC BK346.out 1).trans rfl;have hcz247_2 : w245.cell? ⟨gb346,2,none⟩ = some (.int .i64 t344):=(kC BK346.out 2).trans rfl;have hcz247_3 : w245.cell? ⟨gb346,3,none⟩ = some (.int .i64 t345):=(kC BK346.out 3).trans rfl;have hfz247_0:=blk_frozen BK346.out 0;have hfz247_1:=blk_frozen BK346.out 1;have hfz247_2:=blk_frozen BK346.out 2;have hfz247_3:=blk_frozen BK346.out 3;have hcz248_0 : w245.cell? ⟨gb338,0,none⟩ = some (.int .i64 a0_0):=(kC BK338.out 0).trans rfl;have hcz248_1 : w245.cell? ⟨gb338,1,none⟩ = some (.int .i64 a0_1):=(kC BK338.out 1).trans rfl;have hcz248_2 : w245.cell? ⟨gb338,2,none⟩ = some (.int .i64 a0_2):=(kC BK338.out 2).trans rfl;have hcz248_3 : w245.cell? ⟨gb338,3,none⟩ = some (.int .i64 a0_3):=(kC BK338.out 3).trans rfl;have hfz248_0:=blk_frozen BK338.out 0;have hfz248_1:=blk_frozen BK338.out 1;have hfz248_2:=blk_frozen BK338.out 2;have hfz248_3:=blk_frozen BK338.out 3)|((with_reducible refine gate_callee (f:=36) rfl ?_);refine goesL_ (some 67) rfl rfl Try.func36 (by kernel_rfl) rfl #[.agg #[.int .i64 t342,.int .i64 t343,.int .i64 t344,.int .i64 t345],.agg #[.int .i64 a0_0,.int .i64 a0_1,.int .i64 a0_2,.int .i64 a0_3]] rfl (by (try simp only [List.map_toArray,List.map_cons,List.map_nil]);first|done|rfl|(simp only [List.length_drop,List.length_take];rfl)) ?_;(with_reducible refine (key_Grows.calls t342 t343 t344 t345 a0_0 a0_1 a0_2 a0_3 t374 t375 t376 t377 _ A211.out).mono ?_);rintro e w249 ⟨rfl,hb⟩;refine ⟨_,rfl,?_⟩;have n0_:=Kb BK338 hb;have n1_:=Kb BK339 hb;have n2_:=Kb BK340 hb;have n3_:=Kb BK346 hb;have n4_:=Kh HB hb;clear BK338;clear BK339;clear BK340;clear BK346;clear HB;have BK338:=n0_;have BK339:=n1_;have BK340:=n2_;have BK346:=n3_;have HB:=n4_;clear n0_ n1_ n2_ n3_ n4_;(try clear hb);(try clear hb2);(try clear hk);(try clear hi))|((with_reducible refine gate_dst (N:=8) rfl ?_);refine box_event ?hg (N:=8) ?hd (cs:=#[.int .u64 0,.int .u64 0]) (t:=25) ?hr ?_;(case hd => rfl);(case hg => rfl);(case hr => first|(go_simp;done)|(go_simp;rfl));intro gb378 hg w250 hbox hb;have n0_:=Kb BK338 hb;have n1_:=Kb BK339 hb;have n2_:=Kb BK340 hb;have n3_:=Kb BK346 hb;have n4_:=Kh HB hb;have n5_:=Ak (hbox);have n6_:=Ak ((by rw [hg];exact (below_size HB.out) : w.heap.size ≤ gb378));have n7_:=Ak ((by rw [hg];exact (below_size HB.out) : w.heap.size ≤ gb378));have n8_:=Ak ((by rw [hg];exact Nat.ne_of_lt (blk_lt (g:=gb338) (o:=.cells #[.int .i64 a0_0,.int .i64 a0_1,.int .i64 a0_2,.int .i64 a0_3] 35 (0,0)) BK338.out) : gb338 ≠ gb378));have n9_:=Ak ((by rw [hg];exact Nat.ne_of_gt (blk_lt (g:=gb338) (o:=.cells #[.int .i64 a0_0,.int .i64 a0_1,.int .i64 a0_2,.int .i64 a0_3] 35 (0,0)) BK338.out) : gb378 ≠ gb338));have n10_:=Ak ((by rw [hg];exact Nat.ne_of_lt (blk_lt (g:=gb339) (o:=.cells #[.int .i64 a1_0,.int .i64 a1_1,.int .i64 a1_2,.int .i64 a1_3] 35 (0,0)) BK339.out) : gb339 ≠ gb378));have n11_:=Ak ((by rw [hg];exact Nat.ne_of_gt (blk_lt (g:=gb339) (o:=.cells #[.int .i64 a1_0,.int .i64 a1_1,.int .i64 a1_2,.int .i64 a1_3] 35 (0,0)) BK339.out) : gb378 ≠ gb339));have n12_:=Ak ((by rw [hg];exact Nat.ne_of_lt (blk_lt (g:=gb340) (o:=.cells #[.int .i64 a2_0,.int .i64 a2_1,.int .i64 a2_2,.int .i64 a2_3] 35 (0,0)) BK340.out) : gb340 ≠ gb378));have n13_:=Ak ((by rw [hg];exact Nat.ne_of_gt (blk_lt (g:=gb340) (o:=.cells #[.int .i64 a2_0,.int .i64 a2_1,.int .i64 a2_2,.int .i64 a2_3] 35 (0,0)) BK340.out) : gb378 ≠ gb340));have n14_:=Ak ((by rw [hg];exact Nat.ne_of_lt (blk_lt (g:=gb346) (o:=.cells #[.int .i64 t342,.int .i64 t343,.int .i64 t344,.int .i64 t345] 35 (0,0)) BK346.out) : gb346 ≠ gb378));have n15_:=Ak ((by rw [hg];exact Nat.ne_of_gt (blk_lt (g:=gb346) (o:=.cells #[.int .i64 t342,.int .i64 t343,.int .i64 t344,.int .i64 t345] 35 (0,0)) BK346.out) : gb378 ≠ gb346));clear BK338;clear BK339;clear BK340;clear BK346;clear HB;have BK338:=n0_;have BK339:=n1_;have BK340:=n2_;have BK346:=n3_;have HB:=n4_;have BK378:=n5_;have GW378:=n6_;have GE378:=n7_;have NB338_378:=n8_;have NB378_338:=n9_;have NB339_378:=n10_;have NB378_339:=n11_;have NB340_378:=n12_;have NB378_340:=n13_;have NB346_378:=n14_;have NB378_346:=n15_;clear n0_ n1_ n2_ n3_ n4_ n5_ n6_ n7_ n8_ n9_ n10_ n11_ n12_ n13_ n14_ n15_;clear hb hbox hg)|((with_reducible refine gate_dst (N:=9) rfl ?_);refine box_event ?hg (N:=9) ?hd (cs:=#[.int .u64 0,.int .u64 0]) (t:=25) ?hr ?_;(case hd => rfl);(case hg => rfl);(case hr => first|(go_simp;done)|(go_simp;rfl));intro gb379 hg w251 hbox hb;have n0_:=Kb BK338 hb;have n1_:=Kb BK339 hb;have n2_:=Kb BK340 hb;have n3_:=Kb BK346 hb;have n4_:=Kb BK378 hb;have n5_:=Kh HB hb;have n6_:=Ak (hbox);have n7_:=Ak ((by rw [hg];exact (below_size HB.out) : w.heap.size ≤ gb379));have n8_:=Ak ((by rw [hg];exact (below_size HB.out) : w.heap.size ≤ gb379));have n9_:=Ak ((by rw [hg];exact Nat.ne_of_lt (blk_lt (g:=gb338) (o:=.cells #[.int .i64 a0_0,.int .i64 a0_1,.int .i64 a0_2,.int .i64 a0_3] 35 (0,0)) BK338.out) : gb338 ≠ gb379));have n10_:=Ak ((by rw [hg];exact Nat.ne_of_gt (blk_lt (g:=gb338) (o:=.cells #[.int .i64 a0_0,.int .i64 a0_1,.int .i64 a0_2,.int .i64 a0_3] 35 (0,0)) BK338.out) : gb379 ≠ gb338));have n11_:=Ak ((by rw [hg];exact Nat.ne_of_lt (blk_lt (g:=gb339) (o:=.cells #[.int .i64 a1_0,.int .i64 a1_1,.int .i64 a1_2,.int .i64 a1_3] 35 (0,0)) BK339.out) : gb339 ≠ gb379));have n12_:=Ak ((by rw [hg];exact Nat.ne_of_gt (blk_lt (g:=gb339) (o:=.cells #[.int .i64 a1_0,.int .i64 a1_1,.int .i64 a1_2,.int .i64 a1_3] 35 (0,0)) BK339.out) : gb379 ≠ gb339));have n13_:=Ak ((by rw [hg];exact Nat.ne_of_lt (blk_lt (g:=gb340) (o:=.cells #[.int .i64 a2_0,.int .i64 a2_1,.int .i64 a2_2,.int .i64 a2_3] 35 (0,0)) BK340.out) : gb340 ≠ gb379));have n14_:=Ak ((by rw [hg];exact Nat.ne_of_gt (blk_lt (g:=gb340) (o:=.cells #[.int .i64 a2_0,.int .i64 a2_1,.int .i64 a2_2,.int .i64 a2_3] 35 (0,0)) BK340.out) : gb379 ≠ gb340));have n15_:=Ak ((by rw [hg];exact Nat.ne_of_lt (blk_lt (g:=gb346) (o:=.cells #[.int .i64 t342,.int .i64 t343,.int .i64 t344,.int .i64 t345] 35 (0,0)) BK346.out) : gb346 ≠ gb379));have n16_:=Ak ((by rw [hg];exact Nat.ne_of_gt (blk_lt (g:=gb346) (o:=.cells #[.int .i64 t342,.int .i64 t343,.int .i64 t344,.int .i64 t345] 35 (0,0)) BK346.out) : gb379 ≠ gb346));have n17_:=Ak ((by rw [hg];exact Nat.ne_of_lt (blk_lt (g:=gb378) (o:=.cells #[.int .u64 0,.int .u64 0] 25 (0,0)) BK378.out) : gb378 ≠ gb379));have n18_:=Ak ((by rw [hg];exact Nat.ne_of_gt (blk_lt (g:=gb378) (o:=.cells #[.int .u64 0,.int .u64 0] 25 (0,0)) BK378.out) : gb379 ≠ gb378));clear BK338;clear BK339;clear BK340;clear BK346;clear BK378;clear HB;have BK338:=n0_;have BK339:=n1_;have BK340:=n2_;have BK346:=n3_;have BK378:=n4_;have HB:=n5_;have BK379:=n6_;have GW379:=n7_;have GE379:=n8_;have NB338_379:=n9_;have NB379_338:=n10_;have NB339_379:=n11_;have NB379_339:=n12_;have NB340_379:=n13_;have NB379_340:=n14_;have NB346_379:=n15_;have NB379_346:=n16_;have NB378_379:=n17_;have NB379_378:=n18_;clear n0_ n1_ n2_ n3_ n4_ n5_ n6_ n7_ n8_ n9_ n10_ n11_ n12_ n13_ n14_ n15_ n16_ n17_ n18_;clear hb hbox hg;have hnb252:=NB378_338.out;have hnc252:=NB338_378.out;have hnb253:=NB378_339.out;have hnc253:=NB339_378.out;have hnb254:=NB378_340.out;have hnc254:=NB340_378.out;have hnb255:=NB378_346.out;have hnc255:=NB346_378.out;have hnb256:=NB378_379.out;have hnc256:=NB379_378.out;have hcz257_0 : w251.cell? ⟨gb378,0,none⟩ = some (.int .u64 0):=(kC BK378.out 0).trans rfl;have hcz257_1 : w251.cell? ⟨gb378,1,none⟩ = some (.int .u64 0):=(kC BK378.out 1).trans rfl;have hfz257_0:=blk_frozen BK378.out 0;have hfz257_1:=blk_frozen BK378.out 1;have hnb258:=NB379_338.out;have hnc258:=NB338_379.out;have hnb259:=NB379_339.out;have hnc259:=NB339_379.out;have hnb260:=NB379_340.out;have hnc260:=NB340_379.out;have hnb261:=NB379_346.out;have hnc261:=NB346_379.out;have hcz262_0 : w251.cell? ⟨gb379,0,none⟩ = some (.int .u64 0):=(kC BK379.out 0).trans rfl;have hcz262_1 : w251.cell? ⟨gb379,1,none⟩ = some (.int .u64 0):=(kC BK379.out 1).trans rfl;have hfz262_0:=blk_frozen BK379.out 0;have hfz262_1:=blk_frozen BK379.out 1))
          go_ret
          exact ⟨by first|rfl|(simp [errW_none,errW_some] <;> rfl)|(simp [*,errW_none,errW_some] <;> rfl),by repeat (first|(with_reducible first|exact HB.out|apply bA|apply bN|apply bD|refine bS ?_ GE338.out|refine bS ?_ GE339.out|refine bS ?_ GE340.out|refine bS ?_ GE346.out|refine bS ?_ GE378.out|refine bS ?_ GE379.out)|exact HB.out)⟩
 ·replace c5:=Bool.eq_false_iff.mpr c5
  subst c5
  have H1 : (some false) = some r:=by rw [if_neg (show ¬ (false = true) by decide)] at H;exact H
  clear H
  have H:=H1
  clear H1
  obtain rfl:=Option.some.inj H
  go_enter Try.func13,Try.ntmps13
  go_wp2_with (first|((with_reducible refine gate_dst (N:=3) rfl ?_);refine box_event ?hg (N:=3) ?hd (cs:=#[.int .i64 a0_0,.int .i64 a0_1,.int .i64 a0_2,.int .i64 a0_3]) (t:=35) ?hr ?_;(case hd => rfl);(case hg => rfl);(case hr => first|(go_simp;done)|(go_simp;rfl));intro gb338 hg w263 hbox hb;have n0_:=Kh HB hb;have n1_:=Ak (hbox);have n2_:=Ak ((by rw [hg];exact (below_size HB.out) : w.heap.size ≤ gb338));have n3_:=Ak ((by rw [hg];exact (below_size HB.out) : w.heap.size ≤ gb338));clear HB;have HB:=n0_;have BK338:=n1_;have GW338:=n2_;have GE338:=n3_;clear n0_ n1_ n2_ n3_;clear hb hbox hg)|((with_reducible refine gate_dst (N:=4) rfl ?_);refine box_event ?hg (N:=4) ?hd (cs:=#[.int .i64 a1_0,.int .i64 a1_1,.int .i64 a1_2,.int .i64 a1_3]) (t:=35) ?hr ?_;(case hd => rfl);(case hg => rfl);(case hr => first|(go_simp;done)|(go_simp;rfl));intro gb339 hg w264 hbox hb;have n0_:=Kb BK338 hb;have n1_:=Kh HB hb;have n2_:=Ak (hbox);have n3_:=Ak ((by rw [hg];exact (below_size HB.out) : w.heap.size ≤ gb339));have n4_:=Ak ((by rw [hg];exact (below_size HB.out) : w.heap.size ≤ gb339));have n5_:=Ak ((by rw [hg];exact Nat.ne_of_lt (blk_lt (g:=gb338) (o:=.cells #[.int .i64 a0_0,.int .i64 a0_1,.int .i64 a0_2,.int .i64 a0_3] 35 (0,0)) BK338.out) : gb338 ≠ gb339));have n6_:=Ak ((by rw [hg];exact Nat.ne_of_gt (blk_lt (g:=gb338) (o:=.cells #[.int .i64 a0_0,.int .i64 a0_1,.int .i64 a0_2,.int .i64 a0_3] 35 (0,0)) BK338.out) : gb339 ≠ gb338));clear BK338;clear HB;have BK338:=n0_;have HB:=n1_;have BK339:=n2_;have GW339:=n3_;have GE339:=n4_;have NB338_339:=n5_;have NB339_338:=n6_;clear n0_ n1_ n2_ n3_ n4_ n5_ n6_;clear hb hbox hg)|((with_reducible refine gate_dst (N:=5) rfl ?_);refine box_event ?hg (N:=5) ?hd (cs:=#[.int .i64 a2_0,.int .i64 a2_1,.int .i64 a2_2,.int .i64 a2_3]) (t:=35) ?hr ?_;(case hd => rfl);(case hg => rfl);(case hr => first|(go_simp;done)|(go_simp;rfl));intro gb340 hg w265 hbox hb;have n0_:=Kb BK338 hb;have n1_:=Kb BK339 hb;have n2_:=Kh HB hb;have n3_:=Ak (hbox);have n4_:=Ak ((by rw [hg];exact (below_size HB.out) : w.heap.size ≤ gb340));have n5_:=Ak ((by rw [hg];exact (below_size HB.out) : w.heap.size ≤ gb340));have n6_:=Ak ((by rw [hg];exact Nat.ne_of_lt (blk_lt (g:=gb338) (o:=.cells #[.int .i64 a0_0,.int .i64 a0_1,.int .i64 a0_2,.int .i64 a0_3] 35 (0,0)) BK338.out) : gb338 ≠ gb340));have n7_:=Ak ((by rw [hg];exact Nat.ne_of_gt (blk_lt (g:=gb338) (o:=.cells #[.int .i64 a0_0,.int .i64 a0_1,.int .i64 a0_2,.int .i64 a0_3] 35 (0,0)) BK338.out) : gb340 ≠ gb338));have n8_:=Ak ((by rw [hg];exact Nat.ne_of_lt (blk_lt (g:=gb339) (o:=.cells #[.int .i64 a1_0,.int .i64 a1_1,.int .i64 a1_2,.int .i64 a1_3] 35 (0,0)) BK339.out) : gb339 ≠ gb340));have n9_:=Ak ((by rw [hg];exact Nat.ne_of_gt (blk_lt (g:=gb339) (o:=.cells #[.int .i64 a1_0,.int .i64 a1_1,.int .i64 a1_2,.int .i64 a1_3] 35 (0,0)) BK339.out) : gb340 ≠ gb339));clear BK338;clear BK339;clear HB;have BK338:=n0_;have BK339:=n1_;have HB:=n2_;have BK340:=n3_;have GW340:=n4_;have GE340:=n5_;have NB338_340:=n6_;have NB340_338:=n7_;have NB339_340:=n8_;have NB340_339:=n9_;clear n0_ n1_ n2_ n3_ n4_ n5_ n6_ n7_ n8_ n9_;clear hb hbox hg)|((with_reducible refine gate_callee (f:=32) rfl ?_);refine goesL_ (some 10) rfl rfl Try.func32 (by kernel_rfl) rfl #[] rfl (by (try simp only [List.map_toArray,List.map_cons,List.map_nil]);first|done|rfl|(simp only [List.length_drop,List.length_take];rfl)) ?_;(with_reducible refine (gazetteerlaw09_wakes.calls k  false _ A4.out).mono ?_);rintro e w266 ⟨rfl,hb⟩;refine ⟨_,rfl,?_⟩;have n0_:=Kb BK338 hb;have n1_:=Kb BK339 hb;have n2_:=Kb BK340 hb;have n3_:=Kh HB hb;clear BK338;clear BK339;clear BK340;clear HB;have BK338:=n0_;have BK339:=n1_;have BK340:=n2_;have HB:=n3_;clear n0_ n1_ n2_ n3_;(try clear hb);(try clear hb2);(try clear hk);(try clear hi)))
  go_ret
  exact ⟨by first|rfl|(simp [errW_none,errW_some] <;> rfl)|(simp [*,errW_none,errW_some] <;> rfl),by repeat (first|(with_reducible first|exact HB.out|apply bA|apply bN|apply bD|refine bS ?_ GE338.out|refine bS ?_ GE339.out|refine bS ?_ GE340.out)|exact HB.out)⟩
end Go.Proofs.Ythlhmijgbjcloaa.A
end
section
namespace Go.Proofs.Ythlhmijgbjcloaa.A
open Go.RowKit Go.Proofs.YthlhmijgbjcloaaW.PrintWords Go.Proofs.YthlhmijgbjcloaaW.PrintLast Go.Proofs.YthlhmijgbjcloaaW.PrintMore
attribute [local go_sem] max2_int min2_int max_two min_two max_three min_three max_four min_four   -- for this text's walks alone
def KeyUnion_Pure : Prop := ∀ (x0 : S35) (x1 : S35) (x2 : S35), wf35 x0 → wf35 x1 → wf35 x2 → ∃ k, gazetteerlaw09_KeyUnion.f k x0.f0 x0.f1 x0.f2 x0.f3 x1.f0 x1.f1 x1.f2 x1.f3 x2.f0 x2.f1 x2.f2 x2.f3 = some true
end Go.Proofs.Ythlhmijgbjcloaa.A
end
