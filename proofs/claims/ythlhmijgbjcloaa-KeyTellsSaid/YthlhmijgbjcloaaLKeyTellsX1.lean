/- What the row of this claim reaches. No condition. -/
import Derived.Laws.BytesArg
import Derived.WalkKit
import Derived.StillTailTactics
import Derived.Deep.RegionHeld3
import Derived.Laws.Bits64b
import Derived.Test.YthlhmijgbjcloaaCX5
import Derived.Test.YthlhmijgbjcloaaLKeyTellsX0
set_option linter.unusedVariables false
set_option linter.unusedSimpArgs false
section
namespace Go.Proofs.Ythlhmijgbjcloaa.A
open Go.RowKit Go.Proofs.YthlhmijgbjcloaaW.PrintWords Go.Proofs.YthlhmijgbjcloaaW.PrintLast Go.Proofs.YthlhmijgbjcloaaW.PrintMore
attribute [local go_sem] max2_int min2_int max_two min_two max_three min_three max_four min_four   -- for this text's walks alone
def key_Check.f (a0 : Int) (a1_0 : Int) (a1_1 : Int) (a1_2 : Int) (a1_3 : Int) : Option (Int) := (key_box.f a1_0 a1_1 a1_2 a1_3).bind fun t381 => (if a0 = 1 then (if t381 = true then (some 0) else (some 2)) else (if a0 = 2 then (if t381 = true then (if a1_2 = 0 then (if a1_3 = 0 then (some 0) else (some 2)) else (some 2)) else (some 2)) else (if a0 = 3 then (if t381 = true then (if a1_0 = a1_1 then (if a1_2 = a1_3 then (some 0) else (some 2)) else (some 2)) else (some 2)) else (some 2))))
set_option maxHeartbeats 8000000 in
set_option maxRecDepth 100000 in
theorem key_Check.calls (a0 : Int) (a1_0 : Int) (a1_1 : Int) (a1_2 : Int) (a1_3 : Int) (r : Int) (w : World) (h : key_Check.f a0 a1_0 a1_1 a1_2 a1_3 = some r) :
  Calls Try.prog 42 #[.int .i64 a0,.agg #[.int .i64 a1_0,.int .i64 a1_1,.int .i64 a1_2,.int .i64 a1_3]] w fun e w' => e = .returned (.int .i64 r)∧Below w.heap.size w w':=by
 have hu35:=Try.underlying35
 have HB:=Ak (Below.refl w.heap.size w)
 have H : ((key_box.f a1_0 a1_1 a1_2 a1_3).bind fun t381 => (if a0 = 1 then (if t381 = true then (some 0) else (some 2)) else (if a0 = 2 then (if t381 = true then (if a1_2 = 0 then (if a1_3 = 0 then (some 0) else (some 2)) else (some 2)) else (some 2)) else (if a0 = 3 then (if t381 = true then (if a1_0 = a1_1 then (if a1_2 = a1_3 then (some 0) else (some 2)) else (some 2)) else (some 2)) else (some 2))))) = some r:=h
 clear h
 replace H:=Option.bind_eq_some_iff.mp H
 obtain ⟨t381,A30,H⟩:=H
 replace H : (if a0 = 1 then (if t381 = true then (some 0) else (some 2)) else (if a0 = 2 then (if t381 = true then (if a1_2 = 0 then (if a1_3 = 0 then (some 0) else (some 2)) else (some 2)) else (some 2)) else (if a0 = 3 then (if t381 = true then (if a1_0 = a1_1 then (if a1_2 = a1_3 then (some 0) else (some 2)) else (some 2)) else (some 2)) else (some 2)))) = some r:=H
 have A3:=Ak A30
 clear A30
 by_cases c4 : a0 = 1
 ·rw [if_pos c4] at H
  have c4b0 : (a0 == 1) = true:=beq_iff_eq.mpr c4
  have c4b1 : (a0 != 1) = false:=bne_eq_false_iff_eq.mpr c4
  clear c4
  by_cases c5 : t381 = true
  ·subst c5
   have H1 : (some 0) = some r:=by rw [if_pos rfl] at H;exact H
   clear H
   have H:=H1
   clear H1
   obtain rfl:=Option.some.inj H
   go_enter Try.func42,Try.ntmps42
   go_wp2_with (first|((with_reducible refine gate_dst (N:=3) rfl ?_);refine box_event ?hg (N:=3) ?hd (cs:=#[.int .i64 a1_0,.int .i64 a1_1,.int .i64 a1_2,.int .i64 a1_3]) (t:=35) ?hr ?_;(case hd => rfl);(case hg => rfl);(case hr => first|(go_simp;done)|(go_simp;rfl));intro gb380 hg w6 hbox hb;have n0_:=Kh HB hb;have n1_:=Ak (hbox);have n2_:=Ak ((by rw [hg];exact (below_size HB.out) : w.heap.size ≤ gb380));have n3_:=Ak ((by rw [hg];exact (below_size HB.out) : w.heap.size ≤ gb380));clear HB;have HB:=n0_;have BK380:=n1_;have GW380:=n2_;have GE380:=n3_;clear n0_ n1_ n2_ n3_;clear hb hbox hg;have hcz7_0 : w6.cell? ⟨gb380,0,none⟩ = some (.int .i64 a1_0):=(kC BK380.out 0).trans rfl;have hcz7_1 : w6.cell? ⟨gb380,1,none⟩ = some (.int .i64 a1_1):=(kC BK380.out 1).trans rfl;have hcz7_2 : w6.cell? ⟨gb380,2,none⟩ = some (.int .i64 a1_2):=(kC BK380.out 2).trans rfl;have hcz7_3 : w6.cell? ⟨gb380,3,none⟩ = some (.int .i64 a1_3):=(kC BK380.out 3).trans rfl;have hfz7_0:=blk_frozen BK380.out 0;have hfz7_1:=blk_frozen BK380.out 1;have hfz7_2:=blk_frozen BK380.out 2;have hfz7_3:=blk_frozen BK380.out 3)|((with_reducible refine gate_callee (f:=57) rfl ?_);refine goesL_ (some 7) rfl rfl Try.func57 (by kernel_rfl) rfl #[.agg #[.int .i64 a1_0,.int .i64 a1_1,.int .i64 a1_2,.int .i64 a1_3]] rfl (by (try simp only [List.map_toArray,List.map_cons,List.map_nil]);first|done|rfl|(simp only [List.length_drop,List.length_take];rfl)) ?_;(with_reducible refine (key_box.calls a1_0 a1_1 a1_2 a1_3 true _ A3.out).mono ?_);rintro e w8 ⟨rfl,hb⟩;refine ⟨_,rfl,?_⟩;have n0_:=Kb BK380 hb;have n1_:=Kh HB hb;clear BK380;clear HB;have BK380:=n0_;have HB:=n1_;clear n0_ n1_;(try clear hb);(try clear hb2);(try clear hk);(try clear hi)))
   go_ret
   exact ⟨by first|rfl|(simp [errW_none,errW_some] <;> rfl)|(simp [*,errW_none,errW_some] <;> rfl),by repeat (first|(with_reducible first|exact HB.out|apply bA|apply bN|apply bD|refine bS ?_ GE380.out)|exact HB.out)⟩
  ·replace c5:=Bool.eq_false_iff.mpr c5
   subst c5
   have H1 : (some 2) = some r:=by rw [if_neg (show ¬ (false = true) by decide)] at H;exact H
   clear H
   have H:=H1
   clear H1
   obtain rfl:=Option.some.inj H
   go_enter Try.func42,Try.ntmps42
   go_wp2_with (first|((with_reducible refine gate_dst (N:=3) rfl ?_);refine box_event ?hg (N:=3) ?hd (cs:=#[.int .i64 a1_0,.int .i64 a1_1,.int .i64 a1_2,.int .i64 a1_3]) (t:=35) ?hr ?_;(case hd => rfl);(case hg => rfl);(case hr => first|(go_simp;done)|(go_simp;rfl));intro gb380 hg w9 hbox hb;have n0_:=Kh HB hb;have n1_:=Ak (hbox);have n2_:=Ak ((by rw [hg];exact (below_size HB.out) : w.heap.size ≤ gb380));have n3_:=Ak ((by rw [hg];exact (below_size HB.out) : w.heap.size ≤ gb380));clear HB;have HB:=n0_;have BK380:=n1_;have GW380:=n2_;have GE380:=n3_;clear n0_ n1_ n2_ n3_;clear hb hbox hg;have hcz10_0 : w9.cell? ⟨gb380,0,none⟩ = some (.int .i64 a1_0):=(kC BK380.out 0).trans rfl;have hcz10_1 : w9.cell? ⟨gb380,1,none⟩ = some (.int .i64 a1_1):=(kC BK380.out 1).trans rfl;have hcz10_2 : w9.cell? ⟨gb380,2,none⟩ = some (.int .i64 a1_2):=(kC BK380.out 2).trans rfl;have hcz10_3 : w9.cell? ⟨gb380,3,none⟩ = some (.int .i64 a1_3):=(kC BK380.out 3).trans rfl;have hfz10_0:=blk_frozen BK380.out 0;have hfz10_1:=blk_frozen BK380.out 1;have hfz10_2:=blk_frozen BK380.out 2;have hfz10_3:=blk_frozen BK380.out 3)|((with_reducible refine gate_callee (f:=57) rfl ?_);refine goesL_ (some 7) rfl rfl Try.func57 (by kernel_rfl) rfl #[.agg #[.int .i64 a1_0,.int .i64 a1_1,.int .i64 a1_2,.int .i64 a1_3]] rfl (by (try simp only [List.map_toArray,List.map_cons,List.map_nil]);first|done|rfl|(simp only [List.length_drop,List.length_take];rfl)) ?_;(with_reducible refine (key_box.calls a1_0 a1_1 a1_2 a1_3 false _ A3.out).mono ?_);rintro e w11 ⟨rfl,hb⟩;refine ⟨_,rfl,?_⟩;have n0_:=Kb BK380 hb;have n1_:=Kh HB hb;clear BK380;clear HB;have BK380:=n0_;have HB:=n1_;clear n0_ n1_;(try clear hb);(try clear hb2);(try clear hk);(try clear hi)))
   go_ret
   exact ⟨by first|rfl|(simp [errW_none,errW_some] <;> rfl)|(simp [*,errW_none,errW_some] <;> rfl),by repeat (first|(with_reducible first|exact HB.out|apply bA|apply bN|apply bD|refine bS ?_ GE380.out)|exact HB.out)⟩
 ·rw [if_neg c4] at H
  have c4b0 : (a0 == 1) = false:=beq_eq_false_iff_ne.mpr c4
  have c4b1 : (a0 != 1) = true:=bne_iff_ne.mpr c4
  by_cases c12 : a0 = 2
  ·rw [if_pos c12] at H
   have c12b0 : (a0 == 2) = true:=beq_iff_eq.mpr c12
   have c12b1 : (a0 != 2) = false:=bne_eq_false_iff_eq.mpr c12
   clear c12
   by_cases c13 : t381 = true
   ·subst c13
    have H1 : (if a1_2 = 0 then (if a1_3 = 0 then (some 0) else (some 2)) else (some 2)) = some r:=by rw [if_pos rfl] at H;exact H
    clear H
    have H:=H1
    clear H1
    by_cases c14 : a1_2 = 0
    ·rw [if_pos c14] at H
     have c14b0 : (a1_2 == 0) = true:=beq_iff_eq.mpr c14
     have c14b1 : (a1_2 != 0) = false:=bne_eq_false_iff_eq.mpr c14
     clear c14
     by_cases c15 : a1_3 = 0
     ·rw [if_pos c15] at H
      have c15b0 : (a1_3 == 0) = true:=beq_iff_eq.mpr c15
      have c15b1 : (a1_3 != 0) = false:=bne_eq_false_iff_eq.mpr c15
      clear c15
      obtain rfl:=Option.some.inj H
      go_enter Try.func42,Try.ntmps42
      go_wp2_with (first|((with_reducible refine gate_dst (N:=3) rfl ?_);refine box_event ?hg (N:=3) ?hd (cs:=#[.int .i64 a1_0,.int .i64 a1_1,.int .i64 a1_2,.int .i64 a1_3]) (t:=35) ?hr ?_;(case hd => rfl);(case hg => rfl);(case hr => first|(go_simp;done)|(go_simp;rfl));intro gb380 hg w16 hbox hb;have n0_:=Kh HB hb;have n1_:=Ak (hbox);have n2_:=Ak ((by rw [hg];exact (below_size HB.out) : w.heap.size ≤ gb380));have n3_:=Ak ((by rw [hg];exact (below_size HB.out) : w.heap.size ≤ gb380));clear HB;have HB:=n0_;have BK380:=n1_;have GW380:=n2_;have GE380:=n3_;clear n0_ n1_ n2_ n3_;clear hb hbox hg;have hcz17_0 : w16.cell? ⟨gb380,0,none⟩ = some (.int .i64 a1_0):=(kC BK380.out 0).trans rfl;have hcz17_1 : w16.cell? ⟨gb380,1,none⟩ = some (.int .i64 a1_1):=(kC BK380.out 1).trans rfl;have hcz17_2 : w16.cell? ⟨gb380,2,none⟩ = some (.int .i64 a1_2):=(kC BK380.out 2).trans rfl;have hcz17_3 : w16.cell? ⟨gb380,3,none⟩ = some (.int .i64 a1_3):=(kC BK380.out 3).trans rfl;have hfz17_0:=blk_frozen BK380.out 0;have hfz17_1:=blk_frozen BK380.out 1;have hfz17_2:=blk_frozen BK380.out 2;have hfz17_3:=blk_frozen BK380.out 3)|((with_reducible refine gate_callee (f:=57) rfl ?_);refine goesL_ (some 7) rfl rfl Try.func57 (by kernel_rfl) rfl #[.agg #[.int .i64 a1_0,.int .i64 a1_1,.int .i64 a1_2,.int .i64 a1_3]] rfl (by (try simp only [List.map_toArray,List.map_cons,List.map_nil]);first|done|rfl|(simp only [List.length_drop,List.length_take];rfl)) ?_;(with_reducible refine (key_box.calls a1_0 a1_1 a1_2 a1_3 true _ A3.out).mono ?_);rintro e w18 ⟨rfl,hb⟩;refine ⟨_,rfl,?_⟩;have n0_:=Kb BK380 hb;have n1_:=Kh HB hb;clear BK380;clear HB;have BK380:=n0_;have HB:=n1_;clear n0_ n1_;(try clear hb);(try clear hb2);(try clear hk);(try clear hi);have hcz19_0 : w18.cell? ⟨gb380,0,none⟩ = some (.int .i64 a1_0):=(kC BK380.out 0).trans rfl;have hcz19_1 : w18.cell? ⟨gb380,1,none⟩ = some (.int .i64 a1_1):=(kC BK380.out 1).trans rfl;have hcz19_2 : w18.cell? ⟨gb380,2,none⟩ = some (.int .i64 a1_2):=(kC BK380.out 2).trans rfl;have hcz19_3 : w18.cell? ⟨gb380,3,none⟩ = some (.int .i64 a1_3):=(kC BK380.out 3).trans rfl;have hfz19_0:=blk_frozen BK380.out 0;have hfz19_1:=blk_frozen BK380.out 1;have hfz19_2:=blk_frozen BK380.out 2;have hfz19_3:=blk_frozen BK380.out 3))
      go_ret
      exact ⟨by first|rfl|(simp [errW_none,errW_some] <;> rfl)|(simp [*,errW_none,errW_some] <;> rfl),by repeat (first|(with_reducible first|exact HB.out|apply bA|apply bN|apply bD|refine bS ?_ GE380.out)|exact HB.out)⟩
     ·rw [if_neg c15] at H
      have c15b0 : (a1_3 == 0) = false:=beq_eq_false_iff_ne.mpr c15
      have c15b1 : (a1_3 != 0) = true:=bne_iff_ne.mpr c15
      obtain rfl:=Option.some.inj H
      go_enter Try.func42,Try.ntmps42
      go_wp2_with (first|((with_reducible refine gate_dst (N:=3) rfl ?_);refine box_event ?hg (N:=3) ?hd (cs:=#[.int .i64 a1_0,.int .i64 a1_1,.int .i64 a1_2,.int .i64 a1_3]) (t:=35) ?hr ?_;(case hd => rfl);(case hg => rfl);(case hr => first|(go_simp;done)|(go_simp;rfl));intro gb380 hg w20 hbox hb;have n0_:=Kh HB hb;have n1_:=Ak (hbox);have n2_:=Ak ((by rw [hg];exact (below_size HB.out) : w.heap.size ≤ gb380));have n3_:=Ak ((by rw [hg];exact (below_size HB.out) : w.heap.size ≤ gb380));clear HB;have HB:=n0_;have BK380:=n1_;have GW380:=n2_;have GE380:=n3_;clear n0_ n1_ n2_ n3_;clear hb hbox hg;have hcz21_0 : w20.cell? ⟨gb380,0,none⟩ = some (.int .i64 a1_0):=(kC BK380.out 0).trans rfl;have hcz21_1 : w20.cell? ⟨gb380,1,none⟩ = some (.int .i64 a1_1):=(kC BK380.out 1).trans rfl;have hcz21_2 : w20.cell? ⟨gb380,2,none⟩ = some (.int .i64 a1_2):=(kC BK380.out 2).trans rfl;have hcz21_3 : w20.cell? ⟨gb380,3,none⟩ = some (.int .i64 a1_3):=(kC BK380.out 3).trans rfl;have hfz21_0:=blk_frozen BK380.out 0;have hfz21_1:=blk_frozen BK380.out 1;have hfz21_2:=blk_frozen BK380.out 2;have hfz21_3:=blk_frozen BK380.out 3)|((with_reducible refine gate_callee (f:=57) rfl ?_);refine goesL_ (some 7) rfl rfl Try.func57 (by kernel_rfl) rfl #[.agg #[.int .i64 a1_0,.int .i64 a1_1,.int .i64 a1_2,.int .i64 a1_3]] rfl (by (try simp only [List.map_toArray,List.map_cons,List.map_nil]);first|done|rfl|(simp only [List.length_drop,List.length_take];rfl)) ?_;(with_reducible refine (key_box.calls a1_0 a1_1 a1_2 a1_3 true _ A3.out).mono ?_);rintro e w22 ⟨rfl,hb⟩;refine ⟨_,rfl,?_⟩;have n0_:=Kb BK380 hb;have n1_:=Kh HB hb;clear BK380;clear HB;have BK380:=n0_;have HB:=n1_;clear n0_ n1_;(try clear hb);(try clear hb2);(try clear hk);(try clear hi);have hcz23_0 : w22.cell? ⟨gb380,0,none⟩ = some (.int .i64 a1_0):=(kC BK380.out 0).trans rfl;have hcz23_1 : w22.cell? ⟨gb380,1,none⟩ = some (.int .i64 a1_1):=(kC BK380.out 1).trans rfl;have hcz23_2 : w22.cell? ⟨gb380,2,none⟩ = some (.int .i64 a1_2):=(kC BK380.out 2).trans rfl;have hcz23_3 : w22.cell? ⟨gb380,3,none⟩ = some (.int .i64 a1_3):=(kC BK380.out 3).trans rfl;have hfz23_0:=blk_frozen BK380.out 0;have hfz23_1:=blk_frozen BK380.out 1;have hfz23_2:=blk_frozen BK380.out 2;have hfz23_3:=blk_frozen BK380.out 3))
      go_ret
      exact ⟨by first|rfl|(simp [errW_none,errW_some] <;> rfl)|(simp [*,errW_none,errW_some] <;> rfl),by repeat (first|(with_reducible first|exact HB.out|apply bA|apply bN|apply bD|refine bS ?_ GE380.out)|exact HB.out)⟩
    ·rw [if_neg c14] at H
     have c14b0 : (a1_2 == 0) = false:=beq_eq_false_iff_ne.mpr c14
     have c14b1 : (a1_2 != 0) = true:=bne_iff_ne.mpr c14
     obtain rfl:=Option.some.inj H
     go_enter Try.func42,Try.ntmps42
     go_wp2_with (first|((with_reducible refine gate_dst (N:=3) rfl ?_);refine box_event ?hg (N:=3) ?hd (cs:=#[.int .i64 a1_0,.int .i64 a1_1,.int .i64 a1_2,.int .i64 a1_3]) (t:=35) ?hr ?_;(case hd => rfl);(case hg => rfl);(case hr => first|(go_simp;done)|(go_simp;rfl));intro gb380 hg w24 hbox hb;have n0_:=Kh HB hb;have n1_:=Ak (hbox);have n2_:=Ak ((by rw [hg];exact (below_size HB.out) : w.heap.size ≤ gb380));have n3_:=Ak ((by rw [hg];exact (below_size HB.out) : w.heap.size ≤ gb380));clear HB;have HB:=n0_;have BK380:=n1_;have GW380:=n2_;have GE380:=n3_;clear n0_ n1_ n2_ n3_;clear hb hbox hg;have hcz25_0 : w24.cell? ⟨gb380,0,none⟩ = some (.int .i64 a1_0):=(kC BK380.out 0).trans rfl;have hcz25_1 : w24.cell? ⟨gb380,1,none⟩ = some (.int .i64 a1_1):=(kC BK380.out 1).trans rfl;have hcz25_2 : w24.cell? ⟨gb380,2,none⟩ = some (.int .i64 a1_2):=(kC BK380.out 2).trans rfl;have hcz25_3 : w24.cell? ⟨gb380,3,none⟩ = some (.int .i64 a1_3):=(kC BK380.out 3).trans rfl;have hfz25_0:=blk_frozen BK380.out 0;have hfz25_1:=blk_frozen BK380.out 1;have hfz25_2:=blk_frozen BK380.out 2;have hfz25_3:=blk_frozen BK380.out 3)|((with_reducible refine gate_callee (f:=57) rfl ?_);refine goesL_ (some 7) rfl rfl Try.func57 (by kernel_rfl) rfl #[.agg #[.int .i64 a1_0,.int .i64 a1_1,.int .i64 a1_2,.int .i64 a1_3]] rfl (by (try simp only [List.map_toArray,List.map_cons,List.map_nil]);first|done|rfl|(simp only [List.length_drop,List.length_take];rfl)) ?_;(with_reducible refine (key_box.calls a1_0 a1_1 a1_2 a1_3 true _ A3.out).mono ?_);rintro e w26 ⟨rfl,hb⟩;refine ⟨_,rfl,?_⟩;have n0_:=Kb BK380 hb;have n1_:=Kh HB hb;clear BK380;clear HB;have BK380:=n0_;have HB:=n1_;clear n0_ n1_;(try clear hb);(try clear hb2);(try clear hk);(try clear hi);have hcz27_0 : w26.cell? ⟨gb380,0,none⟩ = some (.int .i64 a1_0):=(kC BK380.out 0).trans rfl;have hcz27_1 : w26.cell? ⟨gb380,1,none⟩ = some (.int .i64 a1_1):=(kC BK380.out 1).trans rfl;have hcz27_2 : w26.cell? ⟨gb380,2,none⟩ = some (.int .i64 a1_2):=(kC BK380.out 2).trans rfl;have hcz27_3 : w26.cell? ⟨gb380,3,none⟩ = some (.int .i64 a1_3):=(kC BK380.out 3).trans rfl;have hfz27_0:=blk_frozen BK380.out 0;have hfz27_1:=blk_frozen BK380.out 1;have hfz27_2:=blk_frozen BK380.out 2;have hfz27_3:=blk_frozen BK380.out 3))
     go_ret
     exact ⟨by first|rfl|(simp [errW_none,errW_some] <;> rfl)|(simp [*,errW_none,errW_some] <;> rfl),by repeat (first|(with_reducible first|exact HB.out|apply bA|apply bN|apply bD|refine bS ?_ GE380.out)|exact HB.out)⟩
   ·replace c13:=Bool.eq_false_iff.mpr c13
    subst c13
    have H1 : (some 2) = some r:=by rw [if_neg (show ¬ (false = true) by decide)] at H;exact H
    clear H
    have H:=H1
    clear H1
    obtain rfl:=Option.some.inj H
    go_enter Try.func42,Try.ntmps42
    go_wp2_with (first|((with_reducible refine gate_dst (N:=3) rfl ?_);refine box_event ?hg (N:=3) ?hd (cs:=#[.int .i64 a1_0,.int .i64 a1_1,.int .i64 a1_2,.int .i64 a1_3]) (t:=35) ?hr ?_;(case hd => rfl);(case hg => rfl);(case hr => first|(go_simp;done)|(go_simp;rfl));intro gb380 hg w28 hbox hb;have n0_:=Kh HB hb;have n1_:=Ak (hbox);have n2_:=Ak ((by rw [hg];exact (below_size HB.out) : w.heap.size ≤ gb380));have n3_:=Ak ((by rw [hg];exact (below_size HB.out) : w.heap.size ≤ gb380));clear HB;have HB:=n0_;have BK380:=n1_;have GW380:=n2_;have GE380:=n3_;clear n0_ n1_ n2_ n3_;clear hb hbox hg;have hcz29_0 : w28.cell? ⟨gb380,0,none⟩ = some (.int .i64 a1_0):=(kC BK380.out 0).trans rfl;have hcz29_1 : w28.cell? ⟨gb380,1,none⟩ = some (.int .i64 a1_1):=(kC BK380.out 1).trans rfl;have hcz29_2 : w28.cell? ⟨gb380,2,none⟩ = some (.int .i64 a1_2):=(kC BK380.out 2).trans rfl;have hcz29_3 : w28.cell? ⟨gb380,3,none⟩ = some (.int .i64 a1_3):=(kC BK380.out 3).trans rfl;have hfz29_0:=blk_frozen BK380.out 0;have hfz29_1:=blk_frozen BK380.out 1;have hfz29_2:=blk_frozen BK380.out 2;have hfz29_3:=blk_frozen BK380.out 3)|((with_reducible refine gate_callee (f:=57) rfl ?_);refine goesL_ (some 7) rfl rfl Try.func57 (by kernel_rfl) rfl #[.agg #[.int .i64 a1_0,.int .i64 a1_1,.int .i64 a1_2,.int .i64 a1_3]] rfl (by (try simp only [List.map_toArray,List.map_cons,List.map_nil]);first|done|rfl|(simp only [List.length_drop,List.length_take];rfl)) ?_;(with_reducible refine (key_box.calls a1_0 a1_1 a1_2 a1_3 false _ A3.out).mono ?_);rintro e w30 ⟨rfl,hb⟩;refine ⟨_,rfl,?_⟩;have n0_:=Kb BK380 hb;have n1_:=Kh HB hb;clear BK380;clear HB;have BK380:=n0_;have HB:=n1_;clear n0_ n1_;(try clear hb);(try clear hb2);(try clear hk);(try clear hi)))
    go_ret
    exact ⟨by first|rfl|(simp [errW_none,errW_some] <;> rfl)|(simp [*,errW_none,errW_some] <;> rfl),by repeat (first|(with_reducible first|exact HB.out|apply bA|apply bN|apply bD|refine bS ?_ GE380.out)|exact HB.out)⟩
  ·rw [if_neg c12] at H
   have c12b0 : (a0 == 2) = false:=beq_eq_false_iff_ne.mpr c12
   have c12b1 : (a0 != 2) = true:=bne_iff_ne.mpr c12
   by_cases c31 : a0 = 3
   ·rw [if_pos c31] at H
    have c31b0 : (a0 == 3) = true:=beq_iff_eq.mpr c31
    have c31b1 : (a0 != 3) = false:=bne_eq_false_iff_eq.mpr c31
    clear c31
    by_cases c32 : t381 = true
    ·subst c32
     have H1 : (if a1_0 = a1_1 then (if a1_2 = a1_3 then (some 0) else (some 2)) else (some 2)) = some r:=by rw [if_pos rfl] at H;exact H
     clear H
     have H:=H1
     clear H1
     by_cases c33 : a1_0 = a1_1
     ·rw [if_pos c33] at H
      have c33b0 : (a1_0 == a1_1) = true:=beq_iff_eq.mpr c33
      have c33b1 : (a1_0 != a1_1) = false:=bne_eq_false_iff_eq.mpr c33
      clear c33
      by_cases c34 : a1_2 = a1_3
      ·rw [if_pos c34] at H
       have c34b0 : (a1_2 == a1_3) = true:=beq_iff_eq.mpr c34
       have c34b1 : (a1_2 != a1_3) = false:=bne_eq_false_iff_eq.mpr c34
       clear c34
       obtain rfl:=Option.some.inj H
       go_enter Try.func42,Try.ntmps42
       go_wp2_with (first|((with_reducible refine gate_dst (N:=3) rfl ?_);refine box_event ?hg (N:=3) ?hd (cs:=#[.int .i64 a1_0,.int .i64 a1_1,.int .i64 a1_2,.int .i64 a1_3]) (t:=35) ?hr ?_;(case hd => rfl);(case hg => rfl);(case hr => first|(go_simp;done)|(go_simp;rfl));intro gb380 hg w35 hbox hb;have n0_:=Kh HB hb;have n1_:=Ak (hbox);have n2_:=Ak ((by rw [hg];exact (below_size HB.out) : w.heap.size ≤ gb380));have n3_:=Ak ((by rw [hg];exact (below_size HB.out) : w.heap.size ≤ gb380));clear HB;have HB:=n0_;have BK380:=n1_;have GW380:=n2_;have GE380:=n3_;clear n0_ n1_ n2_ n3_;clear hb hbox hg;have hcz36_0 : w35.cell? ⟨gb380,0,none⟩ = some (.int .i64 a1_0):=(kC BK380.out 0).trans rfl;have hcz36_1 : w35.cell? ⟨gb380,1,none⟩ = some (.int .i64 a1_1):=(kC BK380.out 1).trans rfl;have hcz36_2 : w35.cell? ⟨gb380,2,none⟩ = some (.int .i64 a1_2):=(kC BK380.out 2).trans rfl;have hcz36_3 : w35.cell? ⟨gb380,3,none⟩ = some (.int .i64 a1_3):=(kC BK380.out 3).trans rfl;have hfz36_0:=blk_frozen BK380.out 0;have hfz36_1:=blk_frozen BK380.out 1;have hfz36_2:=blk_frozen BK380.out 2;have hfz36_3:=blk_frozen BK380.out 3)|((with_reducible refine gate_callee (f:=57) rfl ?_);refine goesL_ (some 7) rfl rfl Try.func57 (by kernel_rfl) rfl #[.agg #[.int .i64 a1_0,.int .i64 a1_1,.int .i64 a1_2,.int .i64 a1_3]] rfl (by (try simp only [List.map_toArray,List.map_cons,List.map_nil]);first|done|rfl|(simp only [List.length_drop,List.length_take];rfl)) ?_;(with_reducible refine (key_box.calls a1_0 a1_1 a1_2 a1_3 true _ A3.out).mono ?_);rintro e w37 ⟨rfl,hb⟩;refine ⟨_,rfl,?_⟩;have n0_:=Kb BK380 hb;have n1_:=Kh HB hb;clear BK380;clear HB;have BK380:=n0_;have HB:=n1_;clear n0_ n1_;(try clear hb);(try clear hb2);(try clear hk);(try clear hi);have hcz38_0 : w37.cell? ⟨gb380,0,none⟩ = some (.int .i64 a1_0):=(kC BK380.out 0).trans rfl;have hcz38_1 : w37.cell? ⟨gb380,1,none⟩ = some (.int .i64 a1_1):=(kC BK380.out 1).trans rfl;have hcz38_2 : w37.cell? ⟨gb380,2,none⟩ = some (.int .i64 a1_2):=(kC BK380.out 2).trans rfl;have hcz38_3 : w37.cell? ⟨gb380,3,none⟩ = some (.int .i64 a1_3):=(kC BK380.out 3).trans rfl;have hfz38_0:=blk_frozen BK380.out 0;have hfz38_1:=blk_frozen BK380.out 1;have hfz38_2:=blk_frozen BK380.out 2;have hfz38_3:=blk_frozen BK380.out 3))
       go_ret
       exact ⟨by first|rfl|(simp [errW_none,errW_some] <;> rfl)|(simp [*,errW_none,errW_some] <;> rfl),by repeat (first|(with_reducible first|exact HB.out|apply bA|apply bN|apply bD|refine bS ?_ GE380.out)|exact HB.out)⟩
      ·rw [if_neg c34] at H
       have c34b0 : (a1_2 == a1_3) = false:=beq_eq_false_iff_ne.mpr c34
       have c34b1 : (a1_2 != a1_3) = true:=bne_iff_ne.mpr c34
       obtain rfl:=Option.some.inj H
       go_enter Try.func42,Try.ntmps42
       go_wp2_with (first|((with_reducible refine gate_dst (N:=3) rfl ?_);refine box_event ?hg (N:=3) ?hd (cs:=#[.int .i64 a1_0,.int .i64 a1_1,.int .i64 a1_2,.int .i64 a1_3]) (t:=35) ?hr ?_;(case hd => rfl);(case hg => rfl);(case hr => first|(go_simp;done)|(go_simp;rfl));intro gb380 hg w39 hbox hb;have n0_:=Kh HB hb;have n1_:=Ak (hbox);have n2_:=Ak ((by rw [hg];exact (below_size HB.out) : w.heap.size ≤ gb380));have n3_:=Ak ((by rw [hg];exact (below_size HB.out) : w.heap.size ≤ gb380));clear HB;have HB:=n0_;have BK380:=n1_;have GW380:=n2_;have GE380:=n3_;clear n0_ n1_ n2_ n3_;clear hb hbox hg;have hcz40_0 : w39.cell? ⟨gb380,0,none⟩ = some (.int .i64 a1_0):=(kC BK380.out 0).trans rfl;have hcz40_1 : w39.cell? ⟨gb380,1,none⟩ = some (.int .i64 a1_1):=(kC BK380.out 1).trans rfl;have hcz40_2 : w39.cell? ⟨gb380,2,none⟩ = some (.int .i64 a1_2):=(kC BK380.out 2).trans rfl;have hcz40_3 : w39.cell? ⟨gb380,3,none⟩ = some (.int .i64 a1_3):=(kC BK380.out 3).trans rfl;have hfz40_0:=blk_frozen BK380.out 0;have hfz40_1:=blk_frozen BK380.out 1;have hfz40_2:=blk_frozen BK380.out 2;have hfz40_3:=blk_frozen BK380.out 3)|((with_reducible refine gate_callee (f:=57) rfl ?_);refine goesL_ (some 7) rfl rfl Try.func57 (by kernel_rfl) rfl #[.agg #[.int .i64 a1_0,.int .i64 a1_1,.int .i64 a1_2,.int .i64 a1_3]] rfl (by (try simp only [List.map_toArray,List.map_cons,List.map_nil]);first|done|rfl|(simp only [List.length_drop,List.length_take];rfl)) ?_;(with_reducible refine (key_box.calls a1_0 a1_1 a1_2 a1_3 true _ A3.out).mono ?_);rintro e w41 ⟨rfl,hb⟩;refine ⟨_,rfl,?_⟩;have n0_:=Kb BK380 hb;have n1_:=Kh HB hb;clear BK380;clear HB;have BK380:=n0_;have HB:=n1_;clear n0_ n1_;(try clear hb);(try clear hb2);(try clear hk);(try clear hi);have hcz42_0 : w41.cell? ⟨gb380,0,none⟩ = some (.int .i64 a1_0):=(kC BK380.out 0).trans rfl;have hcz42_1 : w41.cell? ⟨gb380,1,none⟩ = some (.int .i64 a1_1):=(kC BK380.out 1).trans rfl;have hcz42_2 : w41.cell? ⟨gb380,2,none⟩ = some (.int .i64 a1_2):=(kC BK380.out 2).trans rfl;have hcz42_3 : w41.cell? ⟨gb380,3,none⟩ = some (.int .i64 a1_3):=(kC BK380.out 3).trans rfl;have hfz42_0:=blk_frozen BK380.out 0;have hfz42_1:=blk_frozen BK380.out 1;have hfz42_2:=blk_frozen BK380.out 2;have hfz42_3:=blk_frozen BK380.out 3))
       go_ret
       exact ⟨by first|rfl|(simp [errW_none,errW_some] <;> rfl)|(simp [*,errW_none,errW_some] <;> rfl),by repeat (first|(with_reducible first|exact HB.out|apply bA|apply bN|apply bD|refine bS ?_ GE380.out)|exact HB.out)⟩
     ·rw [if_neg c33] at H
      have c33b0 : (a1_0 == a1_1) = false:=beq_eq_false_iff_ne.mpr c33
      have c33b1 : (a1_0 != a1_1) = true:=bne_iff_ne.mpr c33
      obtain rfl:=Option.some.inj H
      go_enter Try.func42,Try.ntmps42
      go_wp2_with (first|((with_reducible refine gate_dst (N:=3) rfl ?_);refine box_event ?hg (N:=3) ?hd (cs:=#[.int .i64 a1_0,.int .i64 a1_1,.int .i64 a1_2,.int .i64 a1_3]) (t:=35) ?hr ?_;(case hd => rfl);(case hg => rfl);(case hr => first|(go_simp;done)|(go_simp;rfl));intro gb380 hg w43 hbox hb;have n0_:=Kh HB hb;have n1_:=Ak (hbox);have n2_:=Ak ((by rw [hg];exact (below_size HB.out) : w.heap.size ≤ gb380));have n3_:=Ak ((by rw [hg];exact (below_size HB.out) : w.heap.size ≤ gb380));clear HB;have HB:=n0_;have BK380:=n1_;have GW380:=n2_;have GE380:=n3_;clear n0_ n1_ n2_ n3_;clear hb hbox hg;have hcz44_0 : w43.cell? ⟨gb380,0,none⟩ = some (.int .i64 a1_0):=(kC BK380.out 0).trans rfl;have hcz44_1 : w43.cell? ⟨gb380,1,none⟩ = some (.int .i64 a1_1):=(kC BK380.out 1).trans rfl;have hcz44_2 : w43.cell? ⟨gb380,2,none⟩ = some (.int .i64 a1_2):=(kC BK380.out 2).trans rfl;have hcz44_3 : w43.cell? ⟨gb380,3,none⟩ = some (.int .i64 a1_3):=(kC BK380.out 3).trans rfl;have hfz44_0:=blk_frozen BK380.out 0;have hfz44_1:=blk_frozen BK380.out 1;have hfz44_2:=blk_frozen BK380.out 2;have hfz44_3:=blk_frozen BK380.out 3)|((with_reducible refine gate_callee (f:=57) rfl ?_);refine goesL_ (some 7) rfl rfl Try.func57 (by kernel_rfl) rfl #[.agg #[.int .i64 a1_0,.int .i64 a1_1,.int .i64 a1_2,.int .i64 a1_3]] rfl (by (try simp only [List.map_toArray,List.map_cons,List.map_nil]);first|done|rfl|(simp only [List.length_drop,List.length_take];rfl)) ?_;(with_reducible refine (key_box.calls a1_0 a1_1 a1_2 a1_3 true _ A3.out).mono ?_);rintro e w45 ⟨rfl,hb⟩;refine ⟨_,rfl,?_⟩;have n0_:=Kb BK380 hb;have n1_:=Kh HB hb;clear BK380;clear HB;have BK380:=n0_;have HB:=n1_;clear n0_ n1_;(try clear hb);(try clear hb2);(try clear hk);(try clear hi);have hcz46_0 : w45.cell? ⟨gb380,0,none⟩ = some (.int .i64 a1_0):=(kC BK380.out 0).trans rfl;have hcz46_1 : w45.cell? ⟨gb380,1,none⟩ = some (.int .i64 a1_1):=(kC BK380.out 1).trans rfl;have hcz46_2 : w45.cell? ⟨gb380,2,none⟩ = some (.int .i64 a1_2):=(kC BK380.out 2).trans rfl;have hcz46_3 : w45.cell? ⟨gb380,3,none⟩ = some (.int .i64 a1_3):=(kC BK380.out 3).trans rfl;have hfz46_0:=blk_frozen BK380.out 0;have hfz46_1:=blk_frozen BK380.out 1;have hfz46_2:=blk_frozen BK380.out 2;have hfz46_3:=blk_frozen BK380.out 3))
      go_ret
      exact ⟨by first|rfl|(simp [errW_none,errW_some] <;> rfl)|(simp [*,errW_none,errW_some] <;> rfl),by repeat (first|(with_reducible first|exact HB.out|apply bA|apply bN|apply bD|refine bS ?_ GE380.out)|exact HB.out)⟩
    ·replace c32:=Bool.eq_false_iff.mpr c32
     subst c32
     have H1 : (some 2) = some r:=by rw [if_neg (show ¬ (false = true) by decide)] at H;exact H
     clear H
     have H:=H1
     clear H1
     obtain rfl:=Option.some.inj H
     go_enter Try.func42,Try.ntmps42
     go_wp2_with (first|((with_reducible refine gate_dst (N:=3) rfl ?_);refine box_event ?hg (N:=3) ?hd (cs:=#[.int .i64 a1_0,.int .i64 a1_1,.int .i64 a1_2,.int .i64 a1_3]) (t:=35) ?hr ?_;(case hd => rfl);(case hg => rfl);(case hr => first|(go_simp;done)|(go_simp;rfl));intro gb380 hg w47 hbox hb;have n0_:=Kh HB hb;have n1_:=Ak (hbox);have n2_:=Ak ((by rw [hg];exact (below_size HB.out) : w.heap.size ≤ gb380));have n3_:=Ak ((by rw [hg];exact (below_size HB.out) : w.heap.size ≤ gb380));clear HB;have HB:=n0_;have BK380:=n1_;have GW380:=n2_;have GE380:=n3_;clear n0_ n1_ n2_ n3_;clear hb hbox hg;have hcz48_0 : w47.cell? ⟨gb380,0,none⟩ = some (.int .i64 a1_0):=(kC BK380.out 0).trans rfl;have hcz48_1 : w47.cell? ⟨gb380,1,none⟩ = some (.int .i64 a1_1):=(kC BK380.out 1).trans rfl;have hcz48_2 : w47.cell? ⟨gb380,2,none⟩ = some (.int .i64 a1_2):=(kC BK380.out 2).trans rfl;have hcz48_3 : w47.cell? ⟨gb380,3,none⟩ = some (.int .i64 a1_3):=(kC BK380.out 3).trans rfl;have hfz48_0:=blk_frozen BK380.out 0;have hfz48_1:=blk_frozen BK380.out 1;have hfz48_2:=blk_frozen BK380.out 2;have hfz48_3:=blk_frozen BK380.out 3)|((with_reducible refine gate_callee (f:=57) rfl ?_);refine goesL_ (some 7) rfl rfl Try.func57 (by kernel_rfl) rfl #[.agg #[.int .i64 a1_0,.int .i64 a1_1,.int .i64 a1_2,.int .i64 a1_3]] rfl (by (try simp only [List.map_toArray,List.map_cons,List.map_nil]);first|done|rfl|(simp only [List.length_drop,List.length_take];rfl)) ?_;(with_reducible refine (key_box.calls a1_0 a1_1 a1_2 a1_3 false _ A3.out).mono ?_);rintro e w49 ⟨rfl,hb⟩;refine ⟨_,rfl,?_⟩;have n0_:=Kb BK380 hb;have n1_:=Kh HB hb;clear BK380;clear HB;have BK380:=n0_;have HB:=n1_;clear n0_ n1_;(try clear hb);(try clear hb2);(try clear hk);(try clear hi)))
     go_ret
     exact ⟨by first|rfl|(simp [errW_none,errW_some] <;> rfl)|(simp [*,errW_none,errW_some] <;> rfl),by repeat (first|(with_reducible first|exact HB.out|apply bA|apply bN|apply bD|refine bS ?_ GE380.out)|exact HB.out)⟩
   ·rw [if_neg c31] at H
    have c31b0 : (a0 == 3) = false:=beq_eq_false_iff_ne.mpr c31
    have c31b1 : (a0 != 3) = true:=bne_iff_ne.mpr c31
    obtain rfl:=Option.some.inj H
    go_enter Try.func42,Try.ntmps42
    go_wp2_with (first|((with_reducible refine gate_dst (N:=3) rfl ?_);refine box_event ?hg (N:=3) ?hd (cs:=#[.int .i64 a1_0,.int .i64 a1_1,.int .i64 a1_2,.int .i64 a1_3]) (t:=35) ?hr ?_;(case hd => rfl);(case hg => rfl);(case hr => first|(go_simp;done)|(go_simp;rfl));intro gb380 hg w50 hbox hb;have n0_:=Kh HB hb;have n1_:=Ak (hbox);have n2_:=Ak ((by rw [hg];exact (below_size HB.out) : w.heap.size ≤ gb380));have n3_:=Ak ((by rw [hg];exact (below_size HB.out) : w.heap.size ≤ gb380));clear HB;have HB:=n0_;have BK380:=n1_;have GW380:=n2_;have GE380:=n3_;clear n0_ n1_ n2_ n3_;clear hb hbox hg;have hcz51_0 : w50.cell? ⟨gb380,0,none⟩ = some (.int .i64 a1_0):=(kC BK380.out 0).trans rfl;have hcz51_1 : w50.cell? ⟨gb380,1,none⟩ = some (.int .i64 a1_1):=(kC BK380.out 1).trans rfl;have hcz51_2 : w50.cell? ⟨gb380,2,none⟩ = some (.int .i64 a1_2):=(kC BK380.out 2).trans rfl;have hcz51_3 : w50.cell? ⟨gb380,3,none⟩ = some (.int .i64 a1_3):=(kC BK380.out 3).trans rfl;have hfz51_0:=blk_frozen BK380.out 0;have hfz51_1:=blk_frozen BK380.out 1;have hfz51_2:=blk_frozen BK380.out 2;have hfz51_3:=blk_frozen BK380.out 3)|((with_reducible refine gate_callee (f:=57) rfl ?_);refine goesL_ (some 7) rfl rfl Try.func57 (by kernel_rfl) rfl #[.agg #[.int .i64 a1_0,.int .i64 a1_1,.int .i64 a1_2,.int .i64 a1_3]] rfl (by (try simp only [List.map_toArray,List.map_cons,List.map_nil]);first|done|rfl|(simp only [List.length_drop,List.length_take];rfl)) ?_;(with_reducible refine (key_box.calls a1_0 a1_1 a1_2 a1_3 t381 _ A3.out).mono ?_);rintro e w52 ⟨rfl,hb⟩;refine ⟨_,rfl,?_⟩;have n0_:=Kb BK380 hb;have n1_:=Kh HB hb;clear BK380;clear HB;have BK380:=n0_;have HB:=n1_;clear n0_ n1_;(try clear hb);(try clear hb2);(try clear hk);(try clear hi)))
    go_ret
    exact ⟨by first|rfl|(simp [errW_none,errW_some] <;> rfl)|(simp [*,errW_none,errW_some] <;> rfl),by repeat (first|(with_reducible first|exact HB.out|apply bA|apply bN|apply bD|refine bS ?_ GE380.out)|exact HB.out)⟩
def gazetteerref09_Right.f (a0 : Int) (a1_0 : Int) (a1_1 : Int) (a1_2 : Int) (a1_3 : Int) : Option (Bool) := (gazetteerref09_Box.f a1_0 a1_1 a1_2 a1_3).bind fun t383 => (if t383 = true then (if a0 < 1 then (some false) else (if a0 > 3 then (some false) else (if a0 = 1 then (some true) else (if a0 = 2 then (if a1_2 = 0 then (if a1_3 = 0 then (some true) else (if a0 = 3 then (if a1_0 = a1_1 then (some (a1_2 == a1_3)) else (some false)) else (some false))) else (if a0 = 3 then (if a1_0 = a1_1 then (some (a1_2 == a1_3)) else (some false)) else (some false))) else (if a0 = 3 then (if a1_0 = a1_1 then (some (a1_2 == a1_3)) else (some false)) else (some false)))))) else (some false))
set_option maxHeartbeats 8000000 in
set_option maxRecDepth 100000 in
theorem gazetteerref09_Right.calls (a0 : Int) (a1_0 : Int) (a1_1 : Int) (a1_2 : Int) (a1_3 : Int) (r : Bool) (w : World) (h : gazetteerref09_Right.f a0 a1_0 a1_1 a1_2 a1_3 = some r) :
  Calls Try.prog 43 #[.int .i64 a0,.agg #[.int .i64 a1_0,.int .i64 a1_1,.int .i64 a1_2,.int .i64 a1_3]] w fun e w' => e = .returned (.bool r)∧Below w.heap.size w w':=by
 have hu35:=Try.underlying35
 have HB:=Ak (Below.refl w.heap.size w)
 have H : ((gazetteerref09_Box.f a1_0 a1_1 a1_2 a1_3).bind fun t383 => (if t383 = true then (if a0 < 1 then (some false) else (if a0 > 3 then (some false) else (if a0 = 1 then (some true) else (if a0 = 2 then (if a1_2 = 0 then (if a1_3 = 0 then (some true) else (if a0 = 3 then (if a1_0 = a1_1 then (some (a1_2 == a1_3)) else (some false)) else (some false))) else (if a0 = 3 then (if a1_0 = a1_1 then (some (a1_2 == a1_3)) else (some false)) else (some false))) else (if a0 = 3 then (if a1_0 = a1_1 then (some (a1_2 == a1_3)) else (some false)) else (some false)))))) else (some false))) = some r:=h
 clear h
 replace H:=Option.bind_eq_some_iff.mp H
 obtain ⟨t383,A30,H⟩:=H
 replace H : (if t383 = true then (if a0 < 1 then (some false) else (if a0 > 3 then (some false) else (if a0 = 1 then (some true) else (if a0 = 2 then (if a1_2 = 0 then (if a1_3 = 0 then (some true) else (if a0 = 3 then (if a1_0 = a1_1 then (some (a1_2 == a1_3)) else (some false)) else (some false))) else (if a0 = 3 then (if a1_0 = a1_1 then (some (a1_2 == a1_3)) else (some false)) else (some false))) else (if a0 = 3 then (if a1_0 = a1_1 then (some (a1_2 == a1_3)) else (some false)) else (some false)))))) else (some false)) = some r:=H
 have A3:=Ak A30
 clear A30
 by_cases c4 : t383 = true
 ·subst c4
  have H1 : (if a0 < 1 then (some false) else (if a0 > 3 then (some false) else (if a0 = 1 then (some true) else (if a0 = 2 then (if a1_2 = 0 then (if a1_3 = 0 then (some true) else (if a0 = 3 then (if a1_0 = a1_1 then (some (a1_2 == a1_3)) else (some false)) else (some false))) else (if a0 = 3 then (if a1_0 = a1_1 then (some (a1_2 == a1_3)) else (some false)) else (some false))) else (if a0 = 3 then (if a1_0 = a1_1 then (some (a1_2 == a1_3)) else (some false)) else (some false)))))) = some r:=by rw [if_pos rfl] at H;exact H
  clear H
  have H:=H1
  clear H1
  by_cases c5 : a0 < 1
  ·rw [if_pos c5] at H
   have c5b0 : decide (a0 < 1) = true:=decide_eq_true c5
   clear c5
   obtain rfl:=Option.some.inj H
   go_enter Try.func43,Try.ntmps43
   go_wp2_with (first|((with_reducible refine gate_dst (N:=3) rfl ?_);refine box_event ?hg (N:=3) ?hd (cs:=#[.int .i64 a1_0,.int .i64 a1_1,.int .i64 a1_2,.int .i64 a1_3]) (t:=35) ?hr ?_;(case hd => rfl);(case hg => rfl);(case hr => first|(go_simp;done)|(go_simp;rfl));intro gb382 hg w6 hbox hb;have n0_:=Kh HB hb;have n1_:=Ak (hbox);have n2_:=Ak ((by rw [hg];exact (below_size HB.out) : w.heap.size ≤ gb382));have n3_:=Ak ((by rw [hg];exact (below_size HB.out) : w.heap.size ≤ gb382));clear HB;have HB:=n0_;have BK382:=n1_;have GW382:=n2_;have GE382:=n3_;clear n0_ n1_ n2_ n3_;clear hb hbox hg;have hcz7_0 : w6.cell? ⟨gb382,0,none⟩ = some (.int .i64 a1_0):=(kC BK382.out 0).trans rfl;have hcz7_1 : w6.cell? ⟨gb382,1,none⟩ = some (.int .i64 a1_1):=(kC BK382.out 1).trans rfl;have hcz7_2 : w6.cell? ⟨gb382,2,none⟩ = some (.int .i64 a1_2):=(kC BK382.out 2).trans rfl;have hcz7_3 : w6.cell? ⟨gb382,3,none⟩ = some (.int .i64 a1_3):=(kC BK382.out 3).trans rfl;have hfz7_0:=blk_frozen BK382.out 0;have hfz7_1:=blk_frozen BK382.out 1;have hfz7_2:=blk_frozen BK382.out 2;have hfz7_3:=blk_frozen BK382.out 3)|((with_reducible refine gate_callee (f:=59) rfl ?_);refine goesL_ (some 6) rfl rfl Try.func59 (by kernel_rfl) rfl #[.agg #[.int .i64 a1_0,.int .i64 a1_1,.int .i64 a1_2,.int .i64 a1_3]] rfl (by (try simp only [List.map_toArray,List.map_cons,List.map_nil]);first|done|rfl|(simp only [List.length_drop,List.length_take];rfl)) ?_;(with_reducible refine (gazetteerref09_Box.calls a1_0 a1_1 a1_2 a1_3 true _ A3.out).mono ?_);rintro e w8 ⟨rfl,hb⟩;refine ⟨_,rfl,?_⟩;have n0_:=Kb BK382 hb;have n1_:=Kh HB hb;clear BK382;clear HB;have BK382:=n0_;have HB:=n1_;clear n0_ n1_;(try clear hb);(try clear hb2);(try clear hk);(try clear hi)))
   go_ret
   exact ⟨by first|rfl|(simp [errW_none,errW_some] <;> rfl)|(simp [*,errW_none,errW_some] <;> rfl),by repeat (first|(with_reducible first|exact HB.out|apply bA|apply bN|apply bD|refine bS ?_ GE382.out)|exact HB.out)⟩
  ·rw [if_neg c5] at H
   have c5b0 : decide (a0 < 1) = false:=decide_eq_false c5
   clear c5
   by_cases c9 : a0 > 3
   ·rw [if_pos c9] at H
    have c9b0 : decide (3 < a0) = true:=decide_eq_true c9
    clear c9
    obtain rfl:=Option.some.inj H
    go_enter Try.func43,Try.ntmps43
    go_wp2_with (first|((with_reducible refine gate_dst (N:=3) rfl ?_);refine box_event ?hg (N:=3) ?hd (cs:=#[.int .i64 a1_0,.int .i64 a1_1,.int .i64 a1_2,.int .i64 a1_3]) (t:=35) ?hr ?_;(case hd => rfl);(case hg => rfl);(case hr => first|(go_simp;done)|(go_simp;rfl));intro gb382 hg w10 hbox hb;have n0_:=Kh HB hb;have n1_:=Ak (hbox);have n2_:=Ak ((by rw [hg];exact (below_size HB.out) : w.heap.size ≤ gb382));have n3_:=Ak ((by rw [hg];exact (below_size HB.out) : w.heap.size ≤ gb382));clear HB;have HB:=n0_;have BK382:=n1_;have GW382:=n2_;have GE382:=n3_;clear n0_ n1_ n2_ n3_;clear hb hbox hg;have hcz11_0 : w10.cell? ⟨gb382,0,none⟩ = some (.int .i64 a1_0):=(kC BK382.out 0).trans rfl;have hcz11_1 : w10.cell? ⟨gb382,1,none⟩ = some (.int .i64 a1_1):=(kC BK382.out 1).trans rfl;have hcz11_2 : w10.cell? ⟨gb382,2,none⟩ = some (.int .i64 a1_2):=(kC BK382.out 2).trans rfl;have hcz11_3 : w10.cell? ⟨gb382,3,none⟩ = some (.int .i64 a1_3):=(kC BK382.out 3).trans rfl;have hfz11_0:=blk_frozen BK382.out 0;have hfz11_1:=blk_frozen BK382.out 1;have hfz11_2:=blk_frozen BK382.out 2;have hfz11_3:=blk_frozen BK382.out 3)|((with_reducible refine gate_callee (f:=59) rfl ?_);refine goesL_ (some 6) rfl rfl Try.func59 (by kernel_rfl) rfl #[.agg #[.int .i64 a1_0,.int .i64 a1_1,.int .i64 a1_2,.int .i64 a1_3]] rfl (by (try simp only [List.map_toArray,List.map_cons,List.map_nil]);first|done|rfl|(simp only [List.length_drop,List.length_take];rfl)) ?_;(with_reducible refine (gazetteerref09_Box.calls a1_0 a1_1 a1_2 a1_3 true _ A3.out).mono ?_);rintro e w12 ⟨rfl,hb⟩;refine ⟨_,rfl,?_⟩;have n0_:=Kb BK382 hb;have n1_:=Kh HB hb;clear BK382;clear HB;have BK382:=n0_;have HB:=n1_;clear n0_ n1_;(try clear hb);(try clear hb2);(try clear hk);(try clear hi)))
    go_ret
    exact ⟨by first|rfl|(simp [errW_none,errW_some] <;> rfl)|(simp [*,errW_none,errW_some] <;> rfl),by repeat (first|(with_reducible first|exact HB.out|apply bA|apply bN|apply bD|refine bS ?_ GE382.out)|exact HB.out)⟩
   ·rw [if_neg c9] at H
    have c9b0 : decide (3 < a0) = false:=decide_eq_false c9
    clear c9
    by_cases c13 : a0 = 1
    ·rw [if_pos c13] at H
     have c13b0 : (a0 == 1) = true:=beq_iff_eq.mpr c13
     have c13b1 : (a0 != 1) = false:=bne_eq_false_iff_eq.mpr c13
     clear c13
     obtain rfl:=Option.some.inj H
     go_enter Try.func43,Try.ntmps43
     go_wp2_with (first|((with_reducible refine gate_dst (N:=3) rfl ?_);refine box_event ?hg (N:=3) ?hd (cs:=#[.int .i64 a1_0,.int .i64 a1_1,.int .i64 a1_2,.int .i64 a1_3]) (t:=35) ?hr ?_;(case hd => rfl);(case hg => rfl);(case hr => first|(go_simp;done)|(go_simp;rfl));intro gb382 hg w14 hbox hb;have n0_:=Kh HB hb;have n1_:=Ak (hbox);have n2_:=Ak ((by rw [hg];exact (below_size HB.out) : w.heap.size ≤ gb382));have n3_:=Ak ((by rw [hg];exact (below_size HB.out) : w.heap.size ≤ gb382));clear HB;have HB:=n0_;have BK382:=n1_;have GW382:=n2_;have GE382:=n3_;clear n0_ n1_ n2_ n3_;clear hb hbox hg;have hcz15_0 : w14.cell? ⟨gb382,0,none⟩ = some (.int .i64 a1_0):=(kC BK382.out 0).trans rfl;have hcz15_1 : w14.cell? ⟨gb382,1,none⟩ = some (.int .i64 a1_1):=(kC BK382.out 1).trans rfl;have hcz15_2 : w14.cell? ⟨gb382,2,none⟩ = some (.int .i64 a1_2):=(kC BK382.out 2).trans rfl;have hcz15_3 : w14.cell? ⟨gb382,3,none⟩ = some (.int .i64 a1_3):=(kC BK382.out 3).trans rfl;have hfz15_0:=blk_frozen BK382.out 0;have hfz15_1:=blk_frozen BK382.out 1;have hfz15_2:=blk_frozen BK382.out 2;have hfz15_3:=blk_frozen BK382.out 3)|((with_reducible refine gate_callee (f:=59) rfl ?_);refine goesL_ (some 6) rfl rfl Try.func59 (by kernel_rfl) rfl #[.agg #[.int .i64 a1_0,.int .i64 a1_1,.int .i64 a1_2,.int .i64 a1_3]] rfl (by (try simp only [List.map_toArray,List.map_cons,List.map_nil]);first|done|rfl|(simp only [List.length_drop,List.length_take];rfl)) ?_;(with_reducible refine (gazetteerref09_Box.calls a1_0 a1_1 a1_2 a1_3 true _ A3.out).mono ?_);rintro e w16 ⟨rfl,hb⟩;refine ⟨_,rfl,?_⟩;have n0_:=Kb BK382 hb;have n1_:=Kh HB hb;clear BK382;clear HB;have BK382:=n0_;have HB:=n1_;clear n0_ n1_;(try clear hb);(try clear hb2);(try clear hk);(try clear hi)))
     go_ret
     exact ⟨by first|rfl|(simp [errW_none,errW_some] <;> rfl)|(simp [*,errW_none,errW_some] <;> rfl),by repeat (first|(with_reducible first|exact HB.out|apply bA|apply bN|apply bD|refine bS ?_ GE382.out)|exact HB.out)⟩
    ·rw [if_neg c13] at H
     have c13b0 : (a0 == 1) = false:=beq_eq_false_iff_ne.mpr c13
     have c13b1 : (a0 != 1) = true:=bne_iff_ne.mpr c13
     by_cases c17 : a0 = 2
     ·rw [if_pos c17] at H
      have c17b0 : (a0 == 2) = true:=beq_iff_eq.mpr c17
      have c17b1 : (a0 != 2) = false:=bne_eq_false_iff_eq.mpr c17
      clear c17
      by_cases c18 : a1_2 = 0
      ·rw [if_pos c18] at H
       have c18b0 : (a1_2 == 0) = true:=beq_iff_eq.mpr c18
       have c18b1 : (a1_2 != 0) = false:=bne_eq_false_iff_eq.mpr c18
       clear c18
       by_cases c19 : a1_3 = 0
       ·rw [if_pos c19] at H
        have c19b0 : (a1_3 == 0) = true:=beq_iff_eq.mpr c19
        have c19b1 : (a1_3 != 0) = false:=bne_eq_false_iff_eq.mpr c19
        clear c19
        obtain rfl:=Option.some.inj H
        go_enter Try.func43,Try.ntmps43
        go_wp2_with (first|((with_reducible refine gate_dst (N:=3) rfl ?_);refine box_event ?hg (N:=3) ?hd (cs:=#[.int .i64 a1_0,.int .i64 a1_1,.int .i64 a1_2,.int .i64 a1_3]) (t:=35) ?hr ?_;(case hd => rfl);(case hg => rfl);(case hr => first|(go_simp;done)|(go_simp;rfl));intro gb382 hg w20 hbox hb;have n0_:=Kh HB hb;have n1_:=Ak (hbox);have n2_:=Ak ((by rw [hg];exact (below_size HB.out) : w.heap.size ≤ gb382));have n3_:=Ak ((by rw [hg];exact (below_size HB.out) : w.heap.size ≤ gb382));clear HB;have HB:=n0_;have BK382:=n1_;have GW382:=n2_;have GE382:=n3_;clear n0_ n1_ n2_ n3_;clear hb hbox hg;have hcz21_0 : w20.cell? ⟨gb382,0,none⟩ = some (.int .i64 a1_0):=(kC BK382.out 0).trans rfl;have hcz21_1 : w20.cell? ⟨gb382,1,none⟩ = some (.int .i64 a1_1):=(kC BK382.out 1).trans rfl;have hcz21_2 : w20.cell? ⟨gb382,2,none⟩ = some (.int .i64 a1_2):=(kC BK382.out 2).trans rfl;have hcz21_3 : w20.cell? ⟨gb382,3,none⟩ = some (.int .i64 a1_3):=(kC BK382.out 3).trans rfl;have hfz21_0:=blk_frozen BK382.out 0;have hfz21_1:=blk_frozen BK382.out 1;have hfz21_2:=blk_frozen BK382.out 2;have hfz21_3:=blk_frozen BK382.out 3)|((with_reducible refine gate_callee (f:=59) rfl ?_);refine goesL_ (some 6) rfl rfl Try.func59 (by kernel_rfl) rfl #[.agg #[.int .i64 a1_0,.int .i64 a1_1,.int .i64 a1_2,.int .i64 a1_3]] rfl (by (try simp only [List.map_toArray,List.map_cons,List.map_nil]);first|done|rfl|(simp only [List.length_drop,List.length_take];rfl)) ?_;(with_reducible refine (gazetteerref09_Box.calls a1_0 a1_1 a1_2 a1_3 true _ A3.out).mono ?_);rintro e w22 ⟨rfl,hb⟩;refine ⟨_,rfl,?_⟩;have n0_:=Kb BK382 hb;have n1_:=Kh HB hb;clear BK382;clear HB;have BK382:=n0_;have HB:=n1_;clear n0_ n1_;(try clear hb);(try clear hb2);(try clear hk);(try clear hi);have hcz23_0 : w22.cell? ⟨gb382,0,none⟩ = some (.int .i64 a1_0):=(kC BK382.out 0).trans rfl;have hcz23_1 : w22.cell? ⟨gb382,1,none⟩ = some (.int .i64 a1_1):=(kC BK382.out 1).trans rfl;have hcz23_2 : w22.cell? ⟨gb382,2,none⟩ = some (.int .i64 a1_2):=(kC BK382.out 2).trans rfl;have hcz23_3 : w22.cell? ⟨gb382,3,none⟩ = some (.int .i64 a1_3):=(kC BK382.out 3).trans rfl;have hfz23_0:=blk_frozen BK382.out 0;have hfz23_1:=blk_frozen BK382.out 1;have hfz23_2:=blk_frozen BK382.out 2;have hfz23_3:=blk_frozen BK382.out 3))
        go_ret
        exact ⟨by first|rfl|(simp [errW_none,errW_some] <;> rfl)|(simp [*,errW_none,errW_some] <;> rfl),by repeat (first|(with_reducible first|exact HB.out|apply bA|apply bN|apply bD|refine bS ?_ GE382.out)|exact HB.out)⟩
       ·rw [if_neg c19] at H
        have c19b0 : (a1_3 == 0) = false:=beq_eq_false_iff_ne.mpr c19
        have c19b1 : (a1_3 != 0) = true:=bne_iff_ne.mpr c19
        by_cases c24 : a0 = 3
        ·rw [if_pos c24] at H
         have c24b0 : (a0 == 3) = true:=beq_iff_eq.mpr c24
         have c24b1 : (a0 != 3) = false:=bne_eq_false_iff_eq.mpr c24
         clear c24
         by_cases c25 : a1_0 = a1_1
         ·rw [if_pos c25] at H
          have c25b0 : (a1_0 == a1_1) = true:=beq_iff_eq.mpr c25
          have c25b1 : (a1_0 != a1_1) = false:=bne_eq_false_iff_eq.mpr c25
          clear c25
          obtain rfl:=Option.some.inj H
          go_enter Try.func43,Try.ntmps43
          go_wp2_with (first|((with_reducible refine gate_dst (N:=3) rfl ?_);refine box_event ?hg (N:=3) ?hd (cs:=#[.int .i64 a1_0,.int .i64 a1_1,.int .i64 a1_2,.int .i64 a1_3]) (t:=35) ?hr ?_;(case hd => rfl);(case hg => rfl);(case hr => first|(go_simp;done)|(go_simp;rfl));intro gb382 hg w26 hbox hb;have n0_:=Kh HB hb;have n1_:=Ak (hbox);have n2_:=Ak ((by rw [hg];exact (below_size HB.out) : w.heap.size ≤ gb382));have n3_:=Ak ((by rw [hg];exact (below_size HB.out) : w.heap.size ≤ gb382));clear HB;have HB:=n0_;have BK382:=n1_;have GW382:=n2_;have GE382:=n3_;clear n0_ n1_ n2_ n3_;clear hb hbox hg;have hcz27_0 : w26.cell? ⟨gb382,0,none⟩ = some (.int .i64 a1_0):=(kC BK382.out 0).trans rfl;have hcz27_1 : w26.cell? ⟨gb382,1,none⟩ = some (.int .i64 a1_1):=(kC BK382.out 1).trans rfl;have hcz27_2 : w26.cell? ⟨gb382,2,none⟩ = some (.int .i64 a1_2):=(kC BK382.out 2).trans rfl;have hcz27_3 : w26.cell? ⟨gb382,3,none⟩ = some (.int .i64 a1_3):=(kC BK382.out 3).trans rfl;have hfz27_0:=blk_frozen BK382.out 0;have hfz27_1:=blk_frozen BK382.out 1;have hfz27_2:=blk_frozen BK382.out 2;have hfz27_3:=blk_frozen BK382.out 3)|((with_reducible refine gate_callee (f:=59) rfl ?_);refine goesL_ (some 6) rfl rfl Try.func59 (by kernel_rfl) rfl #[.agg #[.int .i64 a1_0,.int .i64 a1_1,.int .i64 a1_2,.int .i64 a1_3]] rfl (by (try simp only [List.map_toArray,List.map_cons,List.map_nil]);first|done|rfl|(simp only [List.length_drop,List.length_take];rfl)) ?_;(with_reducible refine (gazetteerref09_Box.calls a1_0 a1_1 a1_2 a1_3 true _ A3.out).mono ?_);rintro e w28 ⟨rfl,hb⟩;refine ⟨_,rfl,?_⟩;have n0_:=Kb BK382 hb;have n1_:=Kh HB hb;clear BK382;clear HB;have BK382:=n0_;have HB:=n1_;clear n0_ n1_;(try clear hb);(try clear hb2);(try clear hk);(try clear hi);have hcz29_0 : w28.cell? ⟨gb382,0,none⟩ = some (.int .i64 a1_0):=(kC BK382.out 0).trans rfl;have hcz29_1 : w28.cell? ⟨gb382,1,none⟩ = some (.int .i64 a1_1):=(kC BK382.out 1).trans rfl;have hcz29_2 : w28.cell? ⟨gb382,2,none⟩ = some (.int .i64 a1_2):=(kC BK382.out 2).trans rfl;have hcz29_3 : w28.cell? ⟨gb382,3,none⟩ = some (.int .i64 a1_3):=(kC BK382.out 3).trans rfl;have hfz29_0:=blk_frozen BK382.out 0;have hfz29_1:=blk_frozen BK382.out 1;have hfz29_2:=blk_frozen BK382.out 2;have hfz29_3:=blk_frozen BK382.out 3))
          go_ret
          exact ⟨by first|rfl|(simp [errW_none,errW_some] <;> rfl)|(simp [*,errW_none,errW_some] <;> rfl),by repeat (first|(with_reducible first|exact HB.out|apply bA|apply bN|apply bD|refine bS ?_ GE382.out)|exact HB.out)⟩
         ·rw [if_neg c25] at H
          have c25b0 : (a1_0 == a1_1) = false:=beq_eq_false_iff_ne.mpr c25
          have c25b1 : (a1_0 != a1_1) = true:=bne_iff_ne.mpr c25
          obtain rfl:=Option.some.inj H
          go_enter Try.func43,Try.ntmps43
          go_wp2_with (first|((with_reducible refine gate_dst (N:=3) rfl ?_);refine box_event ?hg (N:=3) ?hd (cs:=#[.int .i64 a1_0,.int .i64 a1_1,.int .i64 a1_2,.int .i64 a1_3]) (t:=35) ?hr ?_;(case hd => rfl);(case hg => rfl);(case hr => first|(go_simp;done)|(go_simp;rfl));intro gb382 hg w30 hbox hb;have n0_:=Kh HB hb;have n1_:=Ak (hbox);have n2_:=Ak ((by rw [hg];exact (below_size HB.out) : w.heap.size ≤ gb382));have n3_:=Ak ((by rw [hg];exact (below_size HB.out) : w.heap.size ≤ gb382));clear HB;have HB:=n0_;have BK382:=n1_;have GW382:=n2_;have GE382:=n3_;clear n0_ n1_ n2_ n3_;clear hb hbox hg;have hcz31_0 : w30.cell? ⟨gb382,0,none⟩ = some (.int .i64 a1_0):=(kC BK382.out 0).trans rfl;have hcz31_1 : w30.cell? ⟨gb382,1,none⟩ = some (.int .i64 a1_1):=(kC BK382.out 1).trans rfl;have hcz31_2 : w30.cell? ⟨gb382,2,none⟩ = some (.int .i64 a1_2):=(kC BK382.out 2).trans rfl;have hcz31_3 : w30.cell? ⟨gb382,3,none⟩ = some (.int .i64 a1_3):=(kC BK382.out 3).trans rfl;have hfz31_0:=blk_frozen BK382.out 0;have hfz31_1:=blk_frozen BK382.out 1;have hfz31_2:=blk_frozen BK382.out 2;have hfz31_3:=blk_frozen BK382.out 3)|((with_reducible refine gate_callee (f:=59) rfl ?_);refine goesL_ (some 6) rfl rfl Try.func59 (by kernel_rfl) rfl #[.agg #[.int .i64 a1_0,.int .i64 a1_1,.int .i64 a1_2,.int .i64 a1_3]] rfl (by (try simp only [List.map_toArray,List.map_cons,List.map_nil]);first|done|rfl|(simp only [List.length_drop,List.length_take];rfl)) ?_;(with_reducible refine (gazetteerref09_Box.calls a1_0 a1_1 a1_2 a1_3 true _ A3.out).mono ?_);rintro e w32 ⟨rfl,hb⟩;refine ⟨_,rfl,?_⟩;have n0_:=Kb BK382 hb;have n1_:=Kh HB hb;clear BK382;clear HB;have BK382:=n0_;have HB:=n1_;clear n0_ n1_;(try clear hb);(try clear hb2);(try clear hk);(try clear hi);have hcz33_0 : w32.cell? ⟨gb382,0,none⟩ = some (.int .i64 a1_0):=(kC BK382.out 0).trans rfl;have hcz33_1 : w32.cell? ⟨gb382,1,none⟩ = some (.int .i64 a1_1):=(kC BK382.out 1).trans rfl;have hcz33_2 : w32.cell? ⟨gb382,2,none⟩ = some (.int .i64 a1_2):=(kC BK382.out 2).trans rfl;have hcz33_3 : w32.cell? ⟨gb382,3,none⟩ = some (.int .i64 a1_3):=(kC BK382.out 3).trans rfl;have hfz33_0:=blk_frozen BK382.out 0;have hfz33_1:=blk_frozen BK382.out 1;have hfz33_2:=blk_frozen BK382.out 2;have hfz33_3:=blk_frozen BK382.out 3))
          go_ret
          exact ⟨by first|rfl|(simp [errW_none,errW_some] <;> rfl)|(simp [*,errW_none,errW_some] <;> rfl),by repeat (first|(with_reducible first|exact HB.out|apply bA|apply bN|apply bD|refine bS ?_ GE382.out)|exact HB.out)⟩
        ·rw [if_neg c24] at H
         have c24b0 : (a0 == 3) = false:=beq_eq_false_iff_ne.mpr c24
         have c24b1 : (a0 != 3) = true:=bne_iff_ne.mpr c24
         obtain rfl:=Option.some.inj H
         go_enter Try.func43,Try.ntmps43
         go_wp2_with (first|((with_reducible refine gate_dst (N:=3) rfl ?_);refine box_event ?hg (N:=3) ?hd (cs:=#[.int .i64 a1_0,.int .i64 a1_1,.int .i64 a1_2,.int .i64 a1_3]) (t:=35) ?hr ?_;(case hd => rfl);(case hg => rfl);(case hr => first|(go_simp;done)|(go_simp;rfl));intro gb382 hg w34 hbox hb;have n0_:=Kh HB hb;have n1_:=Ak (hbox);have n2_:=Ak ((by rw [hg];exact (below_size HB.out) : w.heap.size ≤ gb382));have n3_:=Ak ((by rw [hg];exact (below_size HB.out) : w.heap.size ≤ gb382));clear HB;have HB:=n0_;have BK382:=n1_;have GW382:=n2_;have GE382:=n3_;clear n0_ n1_ n2_ n3_;clear hb hbox hg;have hcz35_0 : w34.cell? ⟨gb382,0,none⟩ = some (.int .i64 a1_0):=(kC BK382.out 0).trans rfl;have hcz35_1 : w34.cell? ⟨gb382,1,none⟩ = some (.int .i64 a1_1):=(kC BK382.out 1).trans rfl;have hcz35_2 : w34.cell? ⟨gb382,2,none⟩ = some (.int .i64 a1_2):=(kC BK382.out 2).trans rfl;have hcz35_3 : w34.cell? ⟨gb382,3,none⟩ = some (.int .i64 a1_3):=(kC BK382.out 3).trans rfl;have hfz35_0:=blk_frozen BK382.out 0;have hfz35_1:=blk_frozen BK382.out 1;have hfz35_2:=blk_frozen BK382.out 2;have hfz35_3:=blk_frozen BK382.out 3)|((with_reducible refine gate_callee (f:=59) rfl ?_);refine goesL_ (some 6) rfl rfl Try.func59 (by kernel_rfl) rfl #[.agg #[.int .i64 a1_0,.int .i64 a1_1,.int .i64 a1_2,.int .i64 a1_3]] rfl (by (try simp only [List.map_toArray,List.map_cons,List.map_nil]);first|done|rfl|(simp only [List.length_drop,List.length_take];rfl)) ?_;(with_reducible refine (gazetteerref09_Box.calls a1_0 a1_1 a1_2 a1_3 true _ A3.out).mono ?_);rintro e w36 ⟨rfl,hb⟩;refine ⟨_,rfl,?_⟩;have n0_:=Kb BK382 hb;have n1_:=Kh HB hb;clear BK382;clear HB;have BK382:=n0_;have HB:=n1_;clear n0_ n1_;(try clear hb);(try clear hb2);(try clear hk);(try clear hi);have hcz37_0 : w36.cell? ⟨gb382,0,none⟩ = some (.int .i64 a1_0):=(kC BK382.out 0).trans rfl;have hcz37_1 : w36.cell? ⟨gb382,1,none⟩ = some (.int .i64 a1_1):=(kC BK382.out 1).trans rfl;have hcz37_2 : w36.cell? ⟨gb382,2,none⟩ = some (.int .i64 a1_2):=(kC BK382.out 2).trans rfl;have hcz37_3 : w36.cell? ⟨gb382,3,none⟩ = some (.int .i64 a1_3):=(kC BK382.out 3).trans rfl;have hfz37_0:=blk_frozen BK382.out 0;have hfz37_1:=blk_frozen BK382.out 1;have hfz37_2:=blk_frozen BK382.out 2;have hfz37_3:=blk_frozen BK382.out 3))
         go_ret
         exact ⟨by first|rfl|(simp [errW_none,errW_some] <;> rfl)|(simp [*,errW_none,errW_some] <;> rfl),by repeat (first|(with_reducible first|exact HB.out|apply bA|apply bN|apply bD|refine bS ?_ GE382.out)|exact HB.out)⟩
      ·rw [if_neg c18] at H
       have c18b0 : (a1_2 == 0) = false:=beq_eq_false_iff_ne.mpr c18
       have c18b1 : (a1_2 != 0) = true:=bne_iff_ne.mpr c18
       by_cases c38 : a0 = 3
       ·rw [if_pos c38] at H
        have c38b0 : (a0 == 3) = true:=beq_iff_eq.mpr c38
        have c38b1 : (a0 != 3) = false:=bne_eq_false_iff_eq.mpr c38
        clear c38
        by_cases c39 : a1_0 = a1_1
        ·rw [if_pos c39] at H
         have c39b0 : (a1_0 == a1_1) = true:=beq_iff_eq.mpr c39
         have c39b1 : (a1_0 != a1_1) = false:=bne_eq_false_iff_eq.mpr c39
         clear c39
         obtain rfl:=Option.some.inj H
         go_enter Try.func43,Try.ntmps43
         go_wp2_with (first|((with_reducible refine gate_dst (N:=3) rfl ?_);refine box_event ?hg (N:=3) ?hd (cs:=#[.int .i64 a1_0,.int .i64 a1_1,.int .i64 a1_2,.int .i64 a1_3]) (t:=35) ?hr ?_;(case hd => rfl);(case hg => rfl);(case hr => first|(go_simp;done)|(go_simp;rfl));intro gb382 hg w40 hbox hb;have n0_:=Kh HB hb;have n1_:=Ak (hbox);have n2_:=Ak ((by rw [hg];exact (below_size HB.out) : w.heap.size ≤ gb382));have n3_:=Ak ((by rw [hg];exact (below_size HB.out) : w.heap.size ≤ gb382));clear HB;have HB:=n0_;have BK382:=n1_;have GW382:=n2_;have GE382:=n3_;clear n0_ n1_ n2_ n3_;clear hb hbox hg;have hcz41_0 : w40.cell? ⟨gb382,0,none⟩ = some (.int .i64 a1_0):=(kC BK382.out 0).trans rfl;have hcz41_1 : w40.cell? ⟨gb382,1,none⟩ = some (.int .i64 a1_1):=(kC BK382.out 1).trans rfl;have hcz41_2 : w40.cell? ⟨gb382,2,none⟩ = some (.int .i64 a1_2):=(kC BK382.out 2).trans rfl;have hcz41_3 : w40.cell? ⟨gb382,3,none⟩ = some (.int .i64 a1_3):=(kC BK382.out 3).trans rfl;have hfz41_0:=blk_frozen BK382.out 0;have hfz41_1:=blk_frozen BK382.out 1;have hfz41_2:=blk_frozen BK382.out 2;have hfz41_3:=blk_frozen BK382.out 3)|((with_reducible refine gate_callee (f:=59) rfl ?_);refine goesL_ (some 6) rfl rfl Try.func59 (by kernel_rfl) rfl #[.agg #[.int .i64 a1_0,.int .i64 a1_1,.int .i64 a1_2,.int .i64 a1_3]] rfl (by (try simp only [List.map_toArray,List.map_cons,List.map_nil]);first|done|rfl|(simp only [List.length_drop,List.length_take];rfl)) ?_;(with_reducible refine (gazetteerref09_Box.calls a1_0 a1_1 a1_2 a1_3 true _ A3.out).mono ?_);rintro e w42 ⟨rfl,hb⟩;refine ⟨_,rfl,?_⟩;have n0_:=Kb BK382 hb;have n1_:=Kh HB hb;clear BK382;clear HB;have BK382:=n0_;have HB:=n1_;clear n0_ n1_;(try clear hb);(try clear hb2);(try clear hk);(try clear hi);have hcz43_0 : w42.cell? ⟨gb382,0,none⟩ = some (.int .i64 a1_0):=(kC BK382.out 0).trans rfl;have hcz43_1 : w42.cell? ⟨gb382,1,none⟩ = some (.int .i64 a1_1):=(kC BK382.out 1).trans rfl;have hcz43_2 : w42.cell? ⟨gb382,2,none⟩ = some (.int .i64 a1_2):=(kC BK382.out 2).trans rfl;have hcz43_3 : w42.cell? ⟨gb382,3,none⟩ = some (.int .i64 a1_3):=(kC BK382.out 3).trans rfl;have hfz43_0:=blk_frozen BK382.out 0;have hfz43_1:=blk_frozen BK382.out 1;have hfz43_2:=blk_frozen BK382.out 2;have hfz43_3:=blk_frozen BK382.out 3))
         go_ret
         exact ⟨by first|rfl|(simp [errW_none,errW_some] <;> rfl)|(simp [*,errW_none,errW_some] <;> rfl),by repeat (first|(with_reducible first|exact HB.out|apply bA|apply bN|apply bD|refine bS ?_ GE382.out)|exact HB.out)⟩
        ·rw [if_neg c39] at H
         have c39b0 : (a1_0 == a1_1) = false:=beq_eq_false_iff_ne.mpr c39
         have c39b1 : (a1_0 != a1_1) = true:=bne_iff_ne.mpr c39
         obtain rfl:=Option.some.inj H
         go_enter Try.func43,Try.ntmps43
         go_wp2_with (first|((with_reducible refine gate_dst (N:=3) rfl ?_);refine box_event ?hg (N:=3) ?hd (cs:=#[.int .i64 a1_0,.int .i64 a1_1,.int .i64 a1_2,.int .i64 a1_3]) (t:=35) ?hr ?_;(case hd => rfl);(case hg => rfl);(case hr => first|(go_simp;done)|(go_simp;rfl));intro gb382 hg w44 hbox hb;have n0_:=Kh HB hb;have n1_:=Ak (hbox);have n2_:=Ak ((by rw [hg];exact (below_size HB.out) : w.heap.size ≤ gb382));have n3_:=Ak ((by rw [hg];exact (below_size HB.out) : w.heap.size ≤ gb382));clear HB;have HB:=n0_;have BK382:=n1_;have GW382:=n2_;have GE382:=n3_;clear n0_ n1_ n2_ n3_;clear hb hbox hg;have hcz45_0 : w44.cell? ⟨gb382,0,none⟩ = some (.int .i64 a1_0):=(kC BK382.out 0).trans rfl;have hcz45_1 : w44.cell? ⟨gb382,1,none⟩ = some (.int .i64 a1_1):=(kC BK382.out 1).trans rfl;have hcz45_2 : w44.cell? ⟨gb382,2,none⟩ = some (.int .i64 a1_2):=(kC BK382.out 2).trans rfl;have hcz45_3 : w44.cell? ⟨gb382,3,none⟩ = some (.int .i64 a1_3):=(kC BK382.out 3).trans rfl;have hfz45_0:=blk_frozen BK382.out 0;have hfz45_1:=blk_frozen BK382.out 1;have hfz45_2:=blk_frozen BK382.out 2;have hfz45_3:=blk_frozen BK382.out 3)|((with_reducible refine gate_callee (f:=59) rfl ?_);refine goesL_ (some 6) rfl rfl Try.func59 (by kernel_rfl) rfl #[.agg #[.int .i64 a1_0,.int .i64 a1_1,.int .i64 a1_2,.int .i64 a1_3]] rfl (by (try simp only [List.map_toArray,List.map_cons,List.map_nil]);first|done|rfl|(simp only [List.length_drop,List.length_take];rfl)) ?_;(with_reducible refine (gazetteerref09_Box.calls a1_0 a1_1 a1_2 a1_3 true _ A3.out).mono ?_);rintro e w46 ⟨rfl,hb⟩;refine ⟨_,rfl,?_⟩;have n0_:=Kb BK382 hb;have n1_:=Kh HB hb;clear BK382;clear HB;have BK382:=n0_;have HB:=n1_;clear n0_ n1_;(try clear hb);(try clear hb2);(try clear hk);(try clear hi);have hcz47_0 : w46.cell? ⟨gb382,0,none⟩ = some (.int .i64 a1_0):=(kC BK382.out 0).trans rfl;have hcz47_1 : w46.cell? ⟨gb382,1,none⟩ = some (.int .i64 a1_1):=(kC BK382.out 1).trans rfl;have hcz47_2 : w46.cell? ⟨gb382,2,none⟩ = some (.int .i64 a1_2):=(kC BK382.out 2).trans rfl;have hcz47_3 : w46.cell? ⟨gb382,3,none⟩ = some (.int .i64 a1_3):=(kC BK382.out 3).trans rfl;have hfz47_0:=blk_frozen BK382.out 0;have hfz47_1:=blk_frozen BK382.out 1;have hfz47_2:=blk_frozen BK382.out 2;have hfz47_3:=blk_frozen BK382.out 3))
         go_ret
         exact ⟨by first|rfl|(simp [errW_none,errW_some] <;> rfl)|(simp [*,errW_none,errW_some] <;> rfl),by repeat (first|(with_reducible first|exact HB.out|apply bA|apply bN|apply bD|refine bS ?_ GE382.out)|exact HB.out)⟩
       ·rw [if_neg c38] at H
        have c38b0 : (a0 == 3) = false:=beq_eq_false_iff_ne.mpr c38
        have c38b1 : (a0 != 3) = true:=bne_iff_ne.mpr c38
        obtain rfl:=Option.some.inj H
        go_enter Try.func43,Try.ntmps43
        go_wp2_with (first|((with_reducible refine gate_dst (N:=3) rfl ?_);refine box_event ?hg (N:=3) ?hd (cs:=#[.int .i64 a1_0,.int .i64 a1_1,.int .i64 a1_2,.int .i64 a1_3]) (t:=35) ?hr ?_;(case hd => rfl);(case hg => rfl);(case hr => first|(go_simp;done)|(go_simp;rfl));intro gb382 hg w48 hbox hb;have n0_:=Kh HB hb;have n1_:=Ak (hbox);have n2_:=Ak ((by rw [hg];exact (below_size HB.out) : w.heap.size ≤ gb382));have n3_:=Ak ((by rw [hg];exact (below_size HB.out) : w.heap.size ≤ gb382));clear HB;have HB:=n0_;have BK382:=n1_;have GW382:=n2_;have GE382:=n3_;clear n0_ n1_ n2_ n3_;clear hb hbox hg;have hcz49_0 : w48.cell? ⟨gb382,0,none⟩ = some (.int .i64 a1_0):=(kC BK382.out 0).trans rfl;have hcz49_1 : w48.cell? ⟨gb382,1,none⟩ = some (.int .i64 a1_1):=(kC BK382.out 1).trans rfl;have hcz49_2 : w48.cell? ⟨gb382,2,none⟩ = some (.int .i64 a1_2):=(kC BK382.out 2).trans rfl;have hcz49_3 : w48.cell? ⟨gb382,3,none⟩ = some (.int .i64 a1_3):=(kC BK382.out 3).trans rfl;have hfz49_0:=blk_frozen BK382.out 0;have hfz49_1:=blk_frozen BK382.out 1;have hfz49_2:=blk_frozen BK382.out 2;have hfz49_3:=blk_frozen BK382.out 3)|((with_reducible refine gate_callee (f:=59) rfl ?_);refine goesL_ (some 6) rfl rfl Try.func59 (by kernel_rfl) rfl #[.agg #[.int .i64 a1_0,.int .i64 a1_1,.int .i64 a1_2,.int .i64 a1_3]] rfl (by (try simp only [List.map_toArray,List.map_cons,List.map_nil]);first|done|rfl|(simp only [List.length_drop,List.length_take];rfl)) ?_;(with_reducible refine (gazetteerref09_Box.calls a1_0 a1_1 a1_2 a1_3 true _ A3.out).mono ?_);rintro e w50 ⟨rfl,hb⟩;refine ⟨_,rfl,?_⟩;have n0_:=Kb BK382 hb;have n1_:=Kh HB hb;clear BK382;clear HB;have BK382:=n0_;have HB:=n1_;clear n0_ n1_;(try clear hb);(try clear hb2);(try clear hk);(try clear hi);have hcz51_0 : w50.cell? ⟨gb382,0,none⟩ = some (.int .i64 a1_0):=(kC BK382.out 0).trans rfl;have hcz51_1 : w50.cell? ⟨gb382,1,none⟩ = some (.int .i64 a1_1):=(kC BK382.out 1).trans rfl;have hcz51_2 : w50.cell? ⟨gb382,2,none⟩ = some (.int .i64 a1_2):=(kC BK382.out 2).trans rfl;have hcz51_3 : w50.cell? ⟨gb382,3,none⟩ = some (.int .i64 a1_3):=(kC BK382.out 3).trans rfl;have hfz51_0:=blk_frozen BK382.out 0;have hfz51_1:=blk_frozen BK382.out 1;have hfz51_2:=blk_frozen BK382.out 2;have hfz51_3:=blk_frozen BK382.out 3))
        go_ret
        exact ⟨by first|rfl|(simp [errW_none,errW_some] <;> rfl)|(simp [*,errW_none,errW_some] <;> rfl),by repeat (first|(with_reducible first|exact HB.out|apply bA|apply bN|apply bD|refine bS ?_ GE382.out)|exact HB.out)⟩
     ·rw [if_neg c17] at H
      have c17b0 : (a0 == 2) = false:=beq_eq_false_iff_ne.mpr c17
      have c17b1 : (a0 != 2) = true:=bne_iff_ne.mpr c17
      by_cases c52 : a0 = 3
      ·rw [if_pos c52] at H
       have c52b0 : (a0 == 3) = true:=beq_iff_eq.mpr c52
       have c52b1 : (a0 != 3) = false:=bne_eq_false_iff_eq.mpr c52
       clear c52
       by_cases c53 : a1_0 = a1_1
       ·rw [if_pos c53] at H
        have c53b0 : (a1_0 == a1_1) = true:=beq_iff_eq.mpr c53
        have c53b1 : (a1_0 != a1_1) = false:=bne_eq_false_iff_eq.mpr c53
        clear c53
        obtain rfl:=Option.some.inj H
        go_enter Try.func43,Try.ntmps43
        go_wp2_with (first|((with_reducible refine gate_dst (N:=3) rfl ?_);refine box_event ?hg (N:=3) ?hd (cs:=#[.int .i64 a1_0,.int .i64 a1_1,.int .i64 a1_2,.int .i64 a1_3]) (t:=35) ?hr ?_;(case hd => rfl);(case hg => rfl);(case hr => first|(go_simp;done)|(go_simp;rfl));intro gb382 hg w54 hbox hb;have n0_:=Kh HB hb;have n1_:=Ak (hbox);have n2_:=Ak ((by rw [hg];exact (below_size HB.out) : w.heap.size ≤ gb382));have n3_:=Ak ((by rw [hg];exact (below_size HB.out) : w.heap.size ≤ gb382));clear HB;have HB:=n0_;have BK382:=n1_;have GW382:=n2_;have GE382:=n3_;clear n0_ n1_ n2_ n3_;clear hb hbox hg;have hcz55_0 : w54.cell? ⟨gb382,0,none⟩ = some (.int .i64 a1_0):=(kC BK382.out 0).trans rfl;have hcz55_1 : w54.cell? ⟨gb382,1,none⟩ = some (.int .i64 a1_1):=(kC BK382.out 1).trans rfl;have hcz55_2 : w54.cell? ⟨gb382,2,none⟩ = some (.int .i64 a1_2):=(kC BK382.out 2).trans rfl;have hcz55_3 : w54.cell? ⟨gb382,3,none⟩ = some (.int .i64 a1_3):=(kC BK382.out 3).trans rfl;have hfz55_0:=blk_frozen BK382.out 0;have hfz55_1:=blk_frozen BK382.out 1;have hfz55_2:=blk_frozen BK382.out 2;have hfz55_3:=blk_frozen BK382.out 3)|((with_reducible refine gate_callee (f:=59) rfl ?_);refine goesL_ (some 6) rfl rfl Try.func59 (by kernel_rfl) rfl #[.agg #[.int .i64 a1_0,.int .i64 a1_1,.int .i64 a1_2,.int .i64 a1_3]] rfl (by (try simp only [List.map_toArray,List.map_cons,List.map_nil]);first|done|rfl|(simp only [List.length_drop,List.length_take];rfl)) ?_;(with_reducible refine (gazetteerref09_Box.calls a1_0 a1_1 a1_2 a1_3 true _ A3.out).mono ?_);rintro e w56 ⟨rfl,hb⟩;refine ⟨_,rfl,?_⟩;have n0_:=Kb BK382 hb;have n1_:=Kh HB hb;clear BK382;clear HB;have BK382:=n0_;have HB:=n1_;clear n0_ n1_;(try clear hb);(try clear hb2);(try clear hk);(try clear hi);have hcz57_0 : w56.cell? ⟨gb382,0,none⟩ = some (.int .i64 a1_0):=(kC BK382.out 0).trans rfl;have hcz57_1 : w56.cell? ⟨gb382,1,none⟩ = some (.int .i64 a1_1):=(kC BK382.out 1).trans rfl;have hcz57_2 : w56.cell? ⟨gb382,2,none⟩ = some (.int .i64 a1_2):=(kC BK382.out 2).trans rfl;have hcz57_3 : w56.cell? ⟨gb382,3,none⟩ = some (.int .i64 a1_3):=(kC BK382.out 3).trans rfl;have hfz57_0:=blk_frozen BK382.out 0;have hfz57_1:=blk_frozen BK382.out 1;have hfz57_2:=blk_frozen BK382.out 2;have hfz57_3:=blk_frozen BK382.out 3))
        go_ret
        exact ⟨by first|rfl|(simp [errW_none,errW_some] <;> rfl)|(simp [*,errW_none,errW_some] <;> rfl),by repeat (first|(with_reducible first|exact HB.out|apply bA|apply bN|apply bD|refine bS ?_ GE382.out)|exact HB.out)⟩
       ·rw [if_neg c53] at H
        have c53b0 : (a1_0 == a1_1) = false:=beq_eq_false_iff_ne.mpr c53
        have c53b1 : (a1_0 != a1_1) = true:=bne_iff_ne.mpr c53
        obtain rfl:=Option.some.inj H
        go_enter Try.func43,Try.ntmps43
        go_wp2_with (first|((with_reducible refine gate_dst (N:=3) rfl ?_);refine box_event ?hg (N:=3) ?hd (cs:=#[.int .i64 a1_0,.int .i64 a1_1,.int .i64 a1_2,.int .i64 a1_3]) (t:=35) ?hr ?_;(case hd => rfl);(case hg => rfl);(case hr => first|(go_simp;done)|(go_simp;rfl));intro gb382 hg w58 hbox hb;have n0_:=Kh HB hb;have n1_:=Ak (hbox);have n2_:=Ak ((by rw [hg];exact (below_size HB.out) : w.heap.size ≤ gb382));have n3_:=Ak ((by rw [hg];exact (below_size HB.out) : w.heap.size ≤ gb382));clear HB;have HB:=n0_;have BK382:=n1_;have GW382:=n2_;have GE382:=n3_;clear n0_ n1_ n2_ n3_;clear hb hbox hg;have hcz59_0 : w58.cell? ⟨gb382,0,none⟩ = some (.int .i64 a1_0):=(kC BK382.out 0).trans rfl;have hcz59_1 : w58.cell? ⟨gb382,1,none⟩ = some (.int .i64 a1_1):=(kC BK382.out 1).trans rfl;have hcz59_2 : w58.cell? ⟨gb382,2,none⟩ = some (.int .i64 a1_2):=(kC BK382.out 2).trans rfl;have hcz59_3 : w58.cell? ⟨gb382,3,none⟩ = some (.int .i64 a1_3):=(kC BK382.out 3).trans rfl;have hfz59_0:=blk_frozen BK382.out 0;have hfz59_1:=blk_frozen BK382.out 1;have hfz59_2:=blk_frozen BK382.out 2;have hfz59_3:=blk_frozen BK382.out 3)|((with_reducible refine gate_callee (f:=59) rfl ?_);refine goesL_ (some 6) rfl rfl Try.func59 (by kernel_rfl) rfl #[.agg #[.int .i64 a1_0,.int .i64 a1_1,.int .i64 a1_2,.int .i64 a1_3]] rfl (by (try simp only [List.map_toArray,List.map_cons,List.map_nil]);first|done|rfl|(simp only [List.length_drop,List.length_take];rfl)) ?_;(with_reducible refine (gazetteerref09_Box.calls a1_0 a1_1 a1_2 a1_3 true _ A3.out).mono ?_);rintro e w60 ⟨rfl,hb⟩;refine ⟨_,rfl,?_⟩;have n0_:=Kb BK382 hb;have n1_:=Kh HB hb;clear BK382;clear HB;have BK382:=n0_;have HB:=n1_;clear n0_ n1_;(try clear hb);(try clear hb2);(try clear hk);(try clear hi);have hcz61_0 : w60.cell? ⟨gb382,0,none⟩ = some (.int .i64 a1_0):=(kC BK382.out 0).trans rfl;have hcz61_1 : w60.cell? ⟨gb382,1,none⟩ = some (.int .i64 a1_1):=(kC BK382.out 1).trans rfl;have hcz61_2 : w60.cell? ⟨gb382,2,none⟩ = some (.int .i64 a1_2):=(kC BK382.out 2).trans rfl;have hcz61_3 : w60.cell? ⟨gb382,3,none⟩ = some (.int .i64 a1_3):=(kC BK382.out 3).trans rfl;have hfz61_0:=blk_frozen BK382.out 0;have hfz61_1:=blk_frozen BK382.out 1;have hfz61_2:=blk_frozen BK382.out 2;have hfz61_3:=blk_frozen BK382.out 3))
        go_ret
        exact ⟨by first|rfl|(simp [errW_none,errW_some] <;> rfl)|(simp [*,errW_none,errW_some] <;> rfl),by repeat (first|(with_reducible first|exact HB.out|apply bA|apply bN|apply bD|refine bS ?_ GE382.out)|exact HB.out)⟩
      ·rw [if_neg c52] at H
       have c52b0 : (a0 == 3) = false:=beq_eq_false_iff_ne.mpr c52
       have c52b1 : (a0 != 3) = true:=bne_iff_ne.mpr c52
       obtain rfl:=Option.some.inj H
       go_enter Try.func43,Try.ntmps43
       go_wp2_with (first|((with_reducible refine gate_dst (N:=3) rfl ?_);refine box_event ?hg (N:=3) ?hd (cs:=#[.int .i64 a1_0,.int .i64 a1_1,.int .i64 a1_2,.int .i64 a1_3]) (t:=35) ?hr ?_;(case hd => rfl);(case hg => rfl);(case hr => first|(go_simp;done)|(go_simp;rfl));intro gb382 hg w62 hbox hb;have n0_:=Kh HB hb;have n1_:=Ak (hbox);have n2_:=Ak ((by rw [hg];exact (below_size HB.out) : w.heap.size ≤ gb382));have n3_:=Ak ((by rw [hg];exact (below_size HB.out) : w.heap.size ≤ gb382));clear HB;have HB:=n0_;have BK382:=n1_;have GW382:=n2_;have GE382:=n3_;clear n0_ n1_ n2_ n3_;clear hb hbox hg;have hcz63_0 : w62.cell? ⟨gb382,0,none⟩ = some (.int .i64 a1_0):=(kC BK382.out 0).trans rfl;have hcz63_1 : w62.cell? ⟨gb382,1,none⟩ = some (.int .i64 a1_1):=(kC BK382.out 1).trans rfl;have hcz63_2 : w62.cell? ⟨gb382,2,none⟩ = some (.int .i64 a1_2):=(kC BK382.out 2).trans rfl;have hcz63_3 : w62.cell? ⟨gb382,3,none⟩ = some (.int .i64 a1_3):=(kC BK382.out 3).trans rfl;have hfz63_0:=blk_frozen BK382.out 0;have hfz63_1:=blk_frozen BK382.out 1;have hfz63_2:=blk_frozen BK382.out 2;have hfz63_3:=blk_frozen BK382.out 3)|((with_reducible refine gate_callee (f:=59) rfl ?_);refine goesL_ (some 6) rfl rfl Try.func59 (by kernel_rfl) rfl #[.agg #[.int .i64 a1_0,.int .i64 a1_1,.int .i64 a1_2,.int .i64 a1_3]] rfl (by (try simp only [List.map_toArray,List.map_cons,List.map_nil]);first|done|rfl|(simp only [List.length_drop,List.length_take];rfl)) ?_;(with_reducible refine (gazetteerref09_Box.calls a1_0 a1_1 a1_2 a1_3 true _ A3.out).mono ?_);rintro e w64 ⟨rfl,hb⟩;refine ⟨_,rfl,?_⟩;have n0_:=Kb BK382 hb;have n1_:=Kh HB hb;clear BK382;clear HB;have BK382:=n0_;have HB:=n1_;clear n0_ n1_;(try clear hb);(try clear hb2);(try clear hk);(try clear hi)))
       go_ret
       exact ⟨by first|rfl|(simp [errW_none,errW_some] <;> rfl)|(simp [*,errW_none,errW_some] <;> rfl),by repeat (first|(with_reducible first|exact HB.out|apply bA|apply bN|apply bD|refine bS ?_ GE382.out)|exact HB.out)⟩
 ·replace c4:=Bool.eq_false_iff.mpr c4
  subst c4
  have H1 : (some false) = some r:=by rw [if_neg (show ¬ (false = true) by decide)] at H;exact H
  clear H
  have H:=H1
  clear H1
  obtain rfl:=Option.some.inj H
  go_enter Try.func43,Try.ntmps43
  go_wp2_with (first|((with_reducible refine gate_dst (N:=3) rfl ?_);refine box_event ?hg (N:=3) ?hd (cs:=#[.int .i64 a1_0,.int .i64 a1_1,.int .i64 a1_2,.int .i64 a1_3]) (t:=35) ?hr ?_;(case hd => rfl);(case hg => rfl);(case hr => first|(go_simp;done)|(go_simp;rfl));intro gb382 hg w65 hbox hb;have n0_:=Kh HB hb;have n1_:=Ak (hbox);have n2_:=Ak ((by rw [hg];exact (below_size HB.out) : w.heap.size ≤ gb382));have n3_:=Ak ((by rw [hg];exact (below_size HB.out) : w.heap.size ≤ gb382));clear HB;have HB:=n0_;have BK382:=n1_;have GW382:=n2_;have GE382:=n3_;clear n0_ n1_ n2_ n3_;clear hb hbox hg;have hcz66_0 : w65.cell? ⟨gb382,0,none⟩ = some (.int .i64 a1_0):=(kC BK382.out 0).trans rfl;have hcz66_1 : w65.cell? ⟨gb382,1,none⟩ = some (.int .i64 a1_1):=(kC BK382.out 1).trans rfl;have hcz66_2 : w65.cell? ⟨gb382,2,none⟩ = some (.int .i64 a1_2):=(kC BK382.out 2).trans rfl;have hcz66_3 : w65.cell? ⟨gb382,3,none⟩ = some (.int .i64 a1_3):=(kC BK382.out 3).trans rfl;have hfz66_0:=blk_frozen BK382.out 0;have hfz66_1:=blk_frozen BK382.out 1;have hfz66_2:=blk_frozen BK382.out 2;have hfz66_3:=blk_frozen BK382.out 3)|((with_reducible refine gate_callee (f:=59) rfl ?_);refine goesL_ (some 6) rfl rfl Try.func59 (by kernel_rfl) rfl #[.agg #[.int .i64 a1_0,.int .i64 a1_1,.int .i64 a1_2,.int .i64 a1_3]] rfl (by (try simp only [List.map_toArray,List.map_cons,List.map_nil]);first|done|rfl|(simp only [List.length_drop,List.length_take];rfl)) ?_;(with_reducible refine (gazetteerref09_Box.calls a1_0 a1_1 a1_2 a1_3 false _ A3.out).mono ?_);rintro e w67 ⟨rfl,hb⟩;refine ⟨_,rfl,?_⟩;have n0_:=Kb BK382 hb;have n1_:=Kh HB hb;clear BK382;clear HB;have BK382:=n0_;have HB:=n1_;clear n0_ n1_;(try clear hb);(try clear hb2);(try clear hk);(try clear hi)))
  go_ret
  exact ⟨by first|rfl|(simp [errW_none,errW_some] <;> rfl)|(simp [*,errW_none,errW_some] <;> rfl),by repeat (first|(with_reducible first|exact HB.out|apply bA|apply bN|apply bD|refine bS ?_ GE382.out)|exact HB.out)⟩
def gazetteerref09_inside.f (a0 : Int) (a1 : Int) (a2 : Int) : Option (Bool) := if a0 ≤ a2 then (some (decide (a2 ≤ a1))) else (some false)
set_option maxHeartbeats 8000000 in
set_option maxRecDepth 100000 in
theorem gazetteerref09_inside.calls (a0 : Int) (a1 : Int) (a2 : Int) (r : Bool) (w : World) (h : gazetteerref09_inside.f a0 a1 a2 = some r) :
  Calls Try.prog 62 #[.int .i64 a0,.int .i64 a1,.int .i64 a2] w fun e w' => e = .returned (.bool r)∧Drawn0 w w':=by
 have H : (if a0 ≤ a2 then (some (decide (a2 ≤ a1))) else (some false)) = some r:=h
 clear h
 by_cases c4 : a0 ≤ a2
 ·rw [if_pos c4] at H
  have c4b0 : decide (a0 ≤ a2) = true:=decide_eq_true c4
  clear c4
  obtain rfl:=Option.some.inj H
  go_enter Try.func62,Try.ntmps62
  go_wp2
  go_ret
  exact ⟨by first|rfl|(simp;done)|(simp [*];done),by repeat (first|exact Drawn0.refl _|apply Drawn0.step)⟩
 ·rw [if_neg c4] at H
  have c4b0 : decide (a0 ≤ a2) = false:=decide_eq_false c4
  clear c4
  obtain rfl:=Option.some.inj H
  go_enter Try.func62,Try.ntmps62
  go_wp2
  go_ret
  exact ⟨by first|rfl|(simp;done)|(simp [*];done),by repeat (first|exact Drawn0.refl _|apply Drawn0.step)⟩
end Go.Proofs.Ythlhmijgbjcloaa.A
end
section
namespace Go.Proofs.Ythlhmijgbjcloaa.A
open Go.RowKit Go.Proofs.YthlhmijgbjcloaaW.PrintWords Go.Proofs.YthlhmijgbjcloaaW.PrintLast Go.Proofs.YthlhmijgbjcloaaW.PrintMore
attribute [local go_sem] max2_int min2_int max_two min_two max_three min_three max_four min_four   -- for this text's walks alone
mutual
def gazetteerref09_Meets.j0 : Nat → Bool → Int → Int → Int → Int → Int → Int → Int → Int → Option (Bool)
  | 0, _, _, _, _, _, _, _, _, _ => none
  | k + 1, x14, x385000, x385001, x385002, x385003, x386000, x386001, x386002, x386003 => if x14 = true then (some false) else (if x386000 > x385000 then (gazetteerref09_Meets.j1 k x386000 x385002 x385000 x385001 x385002 x385003 x386000 x386001 x386002 x386003) else (gazetteerref09_Meets.j1 k x385000 x385002 x385000 x385001 x385002 x385003 x386000 x386001 x386002 x386003))
def gazetteerref09_Meets.j1 : Nat → Int → Int → Int → Int → Int → Int → Int → Int → Int → Int → Option (Bool)
  | 0, _, _, _, _, _, _, _, _, _, _ => none
  | k + 1, x5, x6, x385000, x385001, x385002, x385003, x386000, x386001, x386002, x386003 => if x386002 > x6 then (gazetteerref09_Meets.j2 k x5 x386002 x385000 x385001 x385002 x385003 x386000 x386001 x386002 x386003) else (gazetteerref09_Meets.j2 k x5 x6 x385000 x385001 x385002 x385003 x386000 x386001 x386002 x386003)
def gazetteerref09_Meets.j2 : Nat → Int → Int → Int → Int → Int → Int → Int → Int → Int → Int → Option (Bool)
  | 0, _, _, _, _, _, _, _, _, _, _ => none
  | k + 1, x5, x6, x385000, x385001, x385002, x385003, x386000, x386001, x386002, x386003 => (gazetteerref09_inside.f x385000 x385001 x5).bind fun t388 => (if t388 = true then ((gazetteerref09_inside.f x386000 x386001 x5).bind fun t389 => (if t389 = true then ((gazetteerref09_inside.f x385002 x385003 x6).bind fun t390 => (if t390 = true then ((gazetteerref09_inside.f x386002 x386003 x6).bind fun t391 => (some t391)) else (some false))) else (some false))) else (some false))
end
def gazetteerref09_Meets.f (k : Nat) (a0_0 : Int) (a0_1 : Int) (a0_2 : Int) (a0_3 : Int) (a1_0 : Int) (a1_1 : Int) (a1_2 : Int) (a1_3 : Int) : Option (Bool) := (gazetteerref09_Box.f a0_0 a0_1 a0_2 a0_3).bind fun t386 => (if t386 = true then ((gazetteerref09_Box.f a1_0 a1_1 a1_2 a1_3).bind fun t387 => (gazetteerref09_Meets.j0 k (!t387) a0_0 a0_1 a0_2 a0_3 a1_0 a1_1 a1_2 a1_3)) else (gazetteerref09_Meets.j0 k true a0_0 a0_1 a0_2 a0_3 a1_0 a1_1 a1_2 a1_3))
set_option maxHeartbeats 8000000 in
set_option maxRecDepth 100000 in
theorem gazetteerref09_Meets.calls (k : Nat) (a0_0 : Int) (a0_1 : Int) (a0_2 : Int) (a0_3 : Int) (a1_0 : Int) (a1_1 : Int) (a1_2 : Int) (a1_3 : Int) (r : Bool) (w : World) (h : gazetteerref09_Meets.f k a0_0 a0_1 a0_2 a0_3 a1_0 a1_1 a1_2 a1_3 = some r) :
  Calls Try.prog 44 #[.agg #[.int .i64 a0_0,.int .i64 a0_1,.int .i64 a0_2,.int .i64 a0_3],.agg #[.int .i64 a1_0,.int .i64 a1_1,.int .i64 a1_2,.int .i64 a1_3]] w fun e w' => e = .returned (.bool r)∧Below w.heap.size w w':=by
 have hu35:=Try.underlying35
 have HB:=Ak (Below.refl w.heap.size w)
 have H : ((gazetteerref09_Box.f a0_0 a0_1 a0_2 a0_3).bind fun t386 => (if t386 = true then ((gazetteerref09_Box.f a1_0 a1_1 a1_2 a1_3).bind fun t387 => (gazetteerref09_Meets.j0 k (!t387) a0_0 a0_1 a0_2 a0_3 a1_0 a1_1 a1_2 a1_3)) else (gazetteerref09_Meets.j0 k true a0_0 a0_1 a0_2 a0_3 a1_0 a1_1 a1_2 a1_3))) = some r:=h
 clear h
 have HC3:=Ak H
 clear H
 go_enter Try.func44,Try.ntmps44
 go_upto_region 1 with (first|((with_reducible refine gate_dst (N:=2) rfl ?_);refine box_event ?hg (N:=2) ?hd (cs:=#[.int .i64 a0_0,.int .i64 a0_1,.int .i64 a0_2,.int .i64 a0_3]) (t:=35) ?hr ?_;(case hd => rfl);(case hg => rfl);(case hr => first|(go_simp;done)|(go_simp;rfl));intro gb384 hg w4 hbox hb;have n0_:=Kh HB hb;have n1_:=Ak (hbox);have n2_:=Ak ((by rw [hg];exact (below_size HB.out) : w.heap.size ≤ gb384));have n3_:=Ak ((by rw [hg];exact (below_size HB.out) : w.heap.size ≤ gb384));clear HB;have HB:=n0_;have BK384:=n1_;have GW384:=n2_;have GE384:=n3_;clear n0_ n1_ n2_ n3_;clear hb hbox hg)|((with_reducible refine gate_dst (N:=3) rfl ?_);refine box_event ?hg (N:=3) ?hd (cs:=#[.int .i64 a1_0,.int .i64 a1_1,.int .i64 a1_2,.int .i64 a1_3]) (t:=35) ?hr ?_;(case hd => rfl);(case hg => rfl);(case hr => first|(go_simp;done)|(go_simp;rfl));intro gb385 hg w5 hbox hb;have n0_:=Kb BK384 hb;have n1_:=Kh HB hb;have n2_:=Ak (hbox);have n3_:=Ak ((by rw [hg];exact (below_size HB.out) : w.heap.size ≤ gb385));have n4_:=Ak ((by rw [hg];exact (below_size HB.out) : w.heap.size ≤ gb385));have n5_:=Ak ((by rw [hg];exact Nat.ne_of_lt (blk_lt (g:=gb384) (o:=.cells #[.int .i64 a0_0,.int .i64 a0_1,.int .i64 a0_2,.int .i64 a0_3] 35 (0,0)) BK384.out) : gb384 ≠ gb385));have n6_:=Ak ((by rw [hg];exact Nat.ne_of_gt (blk_lt (g:=gb384) (o:=.cells #[.int .i64 a0_0,.int .i64 a0_1,.int .i64 a0_2,.int .i64 a0_3] 35 (0,0)) BK384.out) : gb385 ≠ gb384));clear BK384;clear HB;have BK384:=n0_;have HB:=n1_;have BK385:=n2_;have GW385:=n3_;have GE385:=n4_;have NB384_385:=n5_;have NB385_384:=n6_;clear n0_ n1_ n2_ n3_ n4_ n5_ n6_;clear hb hbox hg))
 repeat (go_quiet (first|((with_reducible refine gate_dst (N:=2) rfl ?_);refine box_event ?hg (N:=2) ?hd (cs:=#[.int .i64 a0_0,.int .i64 a0_1,.int .i64 a0_2,.int .i64 a0_3]) (t:=35) ?hr ?_;(case hd => rfl);(case hg => rfl);(case hr => first|(go_simp;done)|(go_simp;rfl));intro gb384 hg w4 hbox hb;have n0_:=Kh HB hb;have n1_:=Ak (hbox);have n2_:=Ak ((by rw [hg];exact (below_size HB.out) : w.heap.size ≤ gb384));have n3_:=Ak ((by rw [hg];exact (below_size HB.out) : w.heap.size ≤ gb384));clear HB;have HB:=n0_;have BK384:=n1_;have GW384:=n2_;have GE384:=n3_;clear n0_ n1_ n2_ n3_;clear hb hbox hg)|((with_reducible refine gate_dst (N:=3) rfl ?_);refine box_event ?hg (N:=3) ?hd (cs:=#[.int .i64 a1_0,.int .i64 a1_1,.int .i64 a1_2,.int .i64 a1_3]) (t:=35) ?hr ?_;(case hd => rfl);(case hg => rfl);(case hr => first|(go_simp;done)|(go_simp;rfl));intro gb385 hg w5 hbox hb;have n0_:=Kb BK384 hb;have n1_:=Kh HB hb;have n2_:=Ak (hbox);have n3_:=Ak ((by rw [hg];exact (below_size HB.out) : w.heap.size ≤ gb385));have n4_:=Ak ((by rw [hg];exact (below_size HB.out) : w.heap.size ≤ gb385));have n5_:=Ak ((by rw [hg];exact Nat.ne_of_lt (blk_lt (g:=gb384) (o:=.cells #[.int .i64 a0_0,.int .i64 a0_1,.int .i64 a0_2,.int .i64 a0_3] 35 (0,0)) BK384.out) : gb384 ≠ gb385));have n6_:=Ak ((by rw [hg];exact Nat.ne_of_gt (blk_lt (g:=gb384) (o:=.cells #[.int .i64 a0_0,.int .i64 a0_1,.int .i64 a0_2,.int .i64 a0_3] 35 (0,0)) BK384.out) : gb385 ≠ gb384));clear BK384;clear HB;have BK384:=n0_;have HB:=n1_;have BK385:=n2_;have GW385:=n3_;have GE385:=n4_;have NB384_385:=n5_;have NB385_384:=n6_;clear n0_ n1_ n2_ n3_ n4_ n5_ n6_;clear hb hbox hg));go_upto_region 1 with (first|((with_reducible refine gate_dst (N:=2) rfl ?_);refine box_event ?hg (N:=2) ?hd (cs:=#[.int .i64 a0_0,.int .i64 a0_1,.int .i64 a0_2,.int .i64 a0_3]) (t:=35) ?hr ?_;(case hd => rfl);(case hg => rfl);(case hr => first|(go_simp;done)|(go_simp;rfl));intro gb384 hg w4 hbox hb;have n0_:=Kh HB hb;have n1_:=Ak (hbox);have n2_:=Ak ((by rw [hg];exact (below_size HB.out) : w.heap.size ≤ gb384));have n3_:=Ak ((by rw [hg];exact (below_size HB.out) : w.heap.size ≤ gb384));clear HB;have HB:=n0_;have BK384:=n1_;have GW384:=n2_;have GE384:=n3_;clear n0_ n1_ n2_ n3_;clear hb hbox hg)|((with_reducible refine gate_dst (N:=3) rfl ?_);refine box_event ?hg (N:=3) ?hd (cs:=#[.int .i64 a1_0,.int .i64 a1_1,.int .i64 a1_2,.int .i64 a1_3]) (t:=35) ?hr ?_;(case hd => rfl);(case hg => rfl);(case hr => first|(go_simp;done)|(go_simp;rfl));intro gb385 hg w5 hbox hb;have n0_:=Kb BK384 hb;have n1_:=Kh HB hb;have n2_:=Ak (hbox);have n3_:=Ak ((by rw [hg];exact (below_size HB.out) : w.heap.size ≤ gb385));have n4_:=Ak ((by rw [hg];exact (below_size HB.out) : w.heap.size ≤ gb385));have n5_:=Ak ((by rw [hg];exact Nat.ne_of_lt (blk_lt (g:=gb384) (o:=.cells #[.int .i64 a0_0,.int .i64 a0_1,.int .i64 a0_2,.int .i64 a0_3] 35 (0,0)) BK384.out) : gb384 ≠ gb385));have n6_:=Ak ((by rw [hg];exact Nat.ne_of_gt (blk_lt (g:=gb384) (o:=.cells #[.int .i64 a0_0,.int .i64 a0_1,.int .i64 a0_2,.int .i64 a0_3] 35 (0,0)) BK384.out) : gb385 ≠ gb384));clear BK384;clear HB;have BK384:=n0_;have HB:=n1_;have BK385:=n2_;have GW385:=n3_;have GE385:=n4_;have NB384_385:=n5_;have NB385_384:=n6_;clear n0_ n1_ n2_ n3_ n4_ n5_ n6_;clear hb hbox hg)))
 (try simp only [Act.put,sA,sZ,sS])
 go_cut [14] (fun v14 wc => ∃ (kq : Nat) (x14_2 : Bool),v14 = .bool x14_2∧Aside0 (gazetteerref09_Meets.j0 kq x14_2 a0_0 a0_1 a0_2 a0_3 a1_0 a1_1 a1_2 a1_3 = some r)∧Aside0 (kq ≤ k)∧Aside0 (wc.heap[gb384]? = some (.cells #[.int .i64 a0_0,.int .i64 a0_1,.int .i64 a0_2,.int .i64 a0_3] 35 (0,0)))∧Aside0 (wc.heap[gb385]? = some (.cells #[.int .i64 a1_0,.int .i64 a1_1,.int .i64 a1_2,.int .i64 a1_3] 35 (0,0)))∧Aside0 (Below w.heap.size w wc))
 case first =>
  have H:=HC3.out
  clear HC3
  replace H:=Option.bind_eq_some_iff.mp H
  obtain ⟨t386,A60,H⟩:=H
  replace H : (if t386 = true then ((gazetteerref09_Box.f a1_0 a1_1 a1_2 a1_3).bind fun t387 => (gazetteerref09_Meets.j0 k (!t387) a0_0 a0_1 a0_2 a0_3 a1_0 a1_1 a1_2 a1_3)) else (gazetteerref09_Meets.j0 k true a0_0 a0_1 a0_2 a0_3 a1_0 a1_1 a1_2 a1_3)) = some r:=H
  have A6:=Ak A60
  clear A60
  by_cases c7 : t386 = true
  ·subst c7
   have H1 : ((gazetteerref09_Box.f a1_0 a1_1 a1_2 a1_3).bind fun t387 => (gazetteerref09_Meets.j0 k (!t387) a0_0 a0_1 a0_2 a0_3 a1_0 a1_1 a1_2 a1_3)) = some r:=by rw [if_pos rfl] at H;exact H
   clear H
   have H:=H1
   clear H1
   replace H:=Option.bind_eq_some_iff.mp H
   obtain ⟨t387,A80,H⟩:=H
   replace H : (gazetteerref09_Meets.j0 k (!t387) a0_0 a0_1 a0_2 a0_3 a1_0 a1_1 a1_2 a1_3) = some r:=H
   have A8:=Ak A80
   clear A80
   have H':=Ak H
   clear H
   have hnb9:=NB384_385.out
   have hnc9:=NB385_384.out
   have hcz10_0 : w5.cell? ⟨gb384,0,none⟩ = some (.int .i64 a0_0):=(kC BK384.out 0).trans rfl
   have hcz10_1 : w5.cell? ⟨gb384,1,none⟩ = some (.int .i64 a0_1):=(kC BK384.out 1).trans rfl
   have hcz10_2 : w5.cell? ⟨gb384,2,none⟩ = some (.int .i64 a0_2):=(kC BK384.out 2).trans rfl
   have hcz10_3 : w5.cell? ⟨gb384,3,none⟩ = some (.int .i64 a0_3):=(kC BK384.out 3).trans rfl
   have hfz10_0:=blk_frozen BK384.out 0
   have hfz10_1:=blk_frozen BK384.out 1
   have hfz10_2:=blk_frozen BK384.out 2
   have hfz10_3:=blk_frozen BK384.out 3
   go_wp2_with (first|(go_at_call 59;(with_reducible refine (gazetteerref09_Box.calls a0_0 a0_1 a0_2 a0_3 true _ A6.out).mono ?_);rintro e w11 ⟨rfl,hb⟩;have n0_:=Kb BK384 hb;have n1_:=Kb BK385 hb;have n2_:=Kh HB hb;clear BK384;clear BK385;clear HB;have BK384:=n0_;have BK385:=n1_;have HB:=n2_;clear n0_ n1_ n2_;(try clear hb);(try clear hb2);(try clear hk);(try clear hi);have hcz12_0 : w11.cell? ⟨gb385,0,none⟩ = some (.int .i64 a1_0):=(kC BK385.out 0).trans rfl;have hcz12_1 : w11.cell? ⟨gb385,1,none⟩ = some (.int .i64 a1_1):=(kC BK385.out 1).trans rfl;have hcz12_2 : w11.cell? ⟨gb385,2,none⟩ = some (.int .i64 a1_2):=(kC BK385.out 2).trans rfl;have hcz12_3 : w11.cell? ⟨gb385,3,none⟩ = some (.int .i64 a1_3):=(kC BK385.out 3).trans rfl;have hfz12_0:=blk_frozen BK385.out 0;have hfz12_1:=blk_frozen BK385.out 1;have hfz12_2:=blk_frozen BK385.out 2;have hfz12_3:=blk_frozen BK385.out 3)|(go_at_call 59;(with_reducible refine (gazetteerref09_Box.calls a1_0 a1_1 a1_2 a1_3 t387 _ A8.out).mono ?_);rintro e w13 ⟨rfl,hb⟩;have n0_:=Kb BK384 hb;have n1_:=Kb BK385 hb;have n2_:=Kh HB hb;clear BK384;clear BK385;clear HB;have BK384:=n0_;have BK385:=n1_;have HB:=n2_;clear n0_ n1_ n2_;(try clear hb);(try clear hb2);(try clear hk);(try clear hi)))
   repeat (go_quiet (first|(go_at_call 59;(with_reducible refine (gazetteerref09_Box.calls a0_0 a0_1 a0_2 a0_3 true _ A6.out).mono ?_);rintro e w11 ⟨rfl,hb⟩;have n0_:=Kb BK384 hb;have n1_:=Kb BK385 hb;have n2_:=Kh HB hb;clear BK384;clear BK385;clear HB;have BK384:=n0_;have BK385:=n1_;have HB:=n2_;clear n0_ n1_ n2_;(try clear hb);(try clear hb2);(try clear hk);(try clear hi);have hcz12_0 : w11.cell? ⟨gb385,0,none⟩ = some (.int .i64 a1_0):=(kC BK385.out 0).trans rfl;have hcz12_1 : w11.cell? ⟨gb385,1,none⟩ = some (.int .i64 a1_1):=(kC BK385.out 1).trans rfl;have hcz12_2 : w11.cell? ⟨gb385,2,none⟩ = some (.int .i64 a1_2):=(kC BK385.out 2).trans rfl;have hcz12_3 : w11.cell? ⟨gb385,3,none⟩ = some (.int .i64 a1_3):=(kC BK385.out 3).trans rfl;have hfz12_0:=blk_frozen BK385.out 0;have hfz12_1:=blk_frozen BK385.out 1;have hfz12_2:=blk_frozen BK385.out 2;have hfz12_3:=blk_frozen BK385.out 3)|(go_at_call 59;(with_reducible refine (gazetteerref09_Box.calls a1_0 a1_1 a1_2 a1_3 t387 _ A8.out).mono ?_);rintro e w13 ⟨rfl,hb⟩;have n0_:=Kb BK384 hb;have n1_:=Kb BK385 hb;have n2_:=Kh HB hb;clear BK384;clear BK385;clear HB;have BK384:=n0_;have BK385:=n1_;have HB:=n2_;clear n0_ n1_ n2_;(try clear hb);(try clear hb2);(try clear hk);(try clear hi)));try go_wp2_with (first|(go_at_call 59;(with_reducible refine (gazetteerref09_Box.calls a0_0 a0_1 a0_2 a0_3 true _ A6.out).mono ?_);rintro e w11 ⟨rfl,hb⟩;have n0_:=Kb BK384 hb;have n1_:=Kb BK385 hb;have n2_:=Kh HB hb;clear BK384;clear BK385;clear HB;have BK384:=n0_;have BK385:=n1_;have HB:=n2_;clear n0_ n1_ n2_;(try clear hb);(try clear hb2);(try clear hk);(try clear hi);have hcz12_0 : w11.cell? ⟨gb385,0,none⟩ = some (.int .i64 a1_0):=(kC BK385.out 0).trans rfl;have hcz12_1 : w11.cell? ⟨gb385,1,none⟩ = some (.int .i64 a1_1):=(kC BK385.out 1).trans rfl;have hcz12_2 : w11.cell? ⟨gb385,2,none⟩ = some (.int .i64 a1_2):=(kC BK385.out 2).trans rfl;have hcz12_3 : w11.cell? ⟨gb385,3,none⟩ = some (.int .i64 a1_3):=(kC BK385.out 3).trans rfl;have hfz12_0:=blk_frozen BK385.out 0;have hfz12_1:=blk_frozen BK385.out 1;have hfz12_2:=blk_frozen BK385.out 2;have hfz12_3:=blk_frozen BK385.out 3)|(go_at_call 59;(with_reducible refine (gazetteerref09_Box.calls a1_0 a1_1 a1_2 a1_3 t387 _ A8.out).mono ?_);rintro e w13 ⟨rfl,hb⟩;have n0_:=Kb BK384 hb;have n1_:=Kb BK385 hb;have n2_:=Kh HB hb;clear BK384;clear BK385;clear HB;have BK384:=n0_;have BK385:=n1_;have HB:=n2_;clear n0_ n1_ n2_;(try clear hb);(try clear hb2);(try clear hk);(try clear hi))))
   go_meet
   case rel => exact ⟨_,(!t387),(by first|rfl|(simp;done)|(simp [*];done)),H',⟨by first|omega|exact Nat.le_refl _⟩,⟨by (with_reducible repeat (first|refine kN ?_ _|refine kD ?_|refine kA ?_ _));exact BK384.out⟩,⟨by (with_reducible repeat (first|refine kN ?_ _|refine kD ?_|refine kA ?_ _));exact BK385.out⟩,⟨by repeat (first|(with_reducible first|exact HB.out|apply bA|apply bN|apply bD|refine bS ?_ GE384.out|refine bS ?_ GE385.out)|exact HB.out)⟩⟩
  ·replace c7:=Bool.eq_false_iff.mpr c7
   subst c7
   have H1 : (gazetteerref09_Meets.j0 k true a0_0 a0_1 a0_2 a0_3 a1_0 a1_1 a1_2 a1_3) = some r:=by rw [if_neg (show ¬ (false = true) by decide)] at H;exact H
   clear H
   have H:=H1
   clear H1
   have H':=Ak H
   clear H
   have hnb14:=NB384_385.out
   have hnc14:=NB385_384.out
   have hcz15_0 : w5.cell? ⟨gb384,0,none⟩ = some (.int .i64 a0_0):=(kC BK384.out 0).trans rfl
   have hcz15_1 : w5.cell? ⟨gb384,1,none⟩ = some (.int .i64 a0_1):=(kC BK384.out 1).trans rfl
   have hcz15_2 : w5.cell? ⟨gb384,2,none⟩ = some (.int .i64 a0_2):=(kC BK384.out 2).trans rfl
   have hcz15_3 : w5.cell? ⟨gb384,3,none⟩ = some (.int .i64 a0_3):=(kC BK384.out 3).trans rfl
   have hfz15_0:=blk_frozen BK384.out 0
   have hfz15_1:=blk_frozen BK384.out 1
   have hfz15_2:=blk_frozen BK384.out 2
   have hfz15_3:=blk_frozen BK384.out 3
   go_wp2_with (first|(go_at_call 59;(with_reducible refine (gazetteerref09_Box.calls a0_0 a0_1 a0_2 a0_3 false _ A6.out).mono ?_);rintro e w16 ⟨rfl,hb⟩;have n0_:=Kb BK384 hb;have n1_:=Kb BK385 hb;have n2_:=Kh HB hb;clear BK384;clear BK385;clear HB;have BK384:=n0_;have BK385:=n1_;have HB:=n2_;clear n0_ n1_ n2_;(try clear hb);(try clear hb2);(try clear hk);(try clear hi)))
   repeat (go_quiet (first|(go_at_call 59;(with_reducible refine (gazetteerref09_Box.calls a0_0 a0_1 a0_2 a0_3 false _ A6.out).mono ?_);rintro e w16 ⟨rfl,hb⟩;have n0_:=Kb BK384 hb;have n1_:=Kb BK385 hb;have n2_:=Kh HB hb;clear BK384;clear BK385;clear HB;have BK384:=n0_;have BK385:=n1_;have HB:=n2_;clear n0_ n1_ n2_;(try clear hb);(try clear hb2);(try clear hk);(try clear hi)));try go_wp2_with (first|(go_at_call 59;(with_reducible refine (gazetteerref09_Box.calls a0_0 a0_1 a0_2 a0_3 false _ A6.out).mono ?_);rintro e w16 ⟨rfl,hb⟩;have n0_:=Kb BK384 hb;have n1_:=Kb BK385 hb;have n2_:=Kh HB hb;clear BK384;clear BK385;clear HB;have BK384:=n0_;have BK385:=n1_;have HB:=n2_;clear n0_ n1_ n2_;(try clear hb);(try clear hb2);(try clear hk);(try clear hi))))
   go_meet
   case rel => exact ⟨_,(true),(by first|rfl|(simp;done)|(simp [*];done)),H',⟨by first|omega|exact Nat.le_refl _⟩,⟨by (with_reducible repeat (first|refine kN ?_ _|refine kD ?_|refine kA ?_ _));exact BK384.out⟩,⟨by (with_reducible repeat (first|refine kN ?_ _|refine kD ?_|refine kA ?_ _));exact BK385.out⟩,⟨by repeat (first|(with_reducible first|exact HB.out|apply bA|apply bN|apply bD|refine bS ?_ GE384.out|refine bS ?_ GE385.out)|exact HB.out)⟩⟩
 case rest =>
  clear HC3
  try clear c1
  try clear p2
  try clear c4
  try clear c7
  try clear c9
  try clear c14
  try clear hcz10_0
  try clear hcz10_1
  try clear hcz10_2
  try clear hcz10_3
  try clear hcz12_0
  try clear hcz12_1
  try clear hcz12_2
  try clear hcz12_3
  try clear hcz15_0
  try clear hcz15_1
  try clear hcz15_2
  try clear hcz15_3
  try clear hfz10_0
  try clear hfz10_1
  try clear hfz10_2
  try clear hfz10_3
  try clear hfz12_0
  try clear hfz12_1
  try clear hfz12_2
  try clear hfz12_3
  try clear hfz15_0
  try clear hfz15_1
  try clear hfz15_2
  try clear hfz15_3
  obtain ⟨kq,x14_2,rfl,HA,HJ2,BK384,BK385,HB⟩:=hcut
  cases kq with
  | zero => exact absurd HA.out (by simp [gazetteerref09_Meets.j0])
  | succ kj2 =>
   have H:=HA.out
   clear HA
   simp only [gazetteerref09_Meets.j0] at H
   by_cases c17 : x14_2 = true
   ·subst c17
    have H1 : (some false) = some r:=by rw [if_pos rfl] at H;exact H
    clear H
    have H:=H1
    clear H1
    obtain rfl:=Option.some.inj H
    go_wp2
    repeat (go_quiet (fail);try go_wp2)
    go_ret
    exact ⟨by first|rfl|(simp [errW_none,errW_some] <;> rfl)|(simp [*,errW_none,errW_some] <;> rfl),by repeat (first|(with_reducible first|exact HB.out|apply bA|apply bN|apply bD|refine bS ?_ GE384.out|refine bS ?_ GE385.out)|exact HB.out)⟩
   ·replace c17:=Bool.eq_false_iff.mpr c17
    subst c17
    have H1 : (if a1_0 > a0_0 then (gazetteerref09_Meets.j1 kj2 a1_0 a0_2 a0_0 a0_1 a0_2 a0_3 a1_0 a1_1 a1_2 a1_3) else (gazetteerref09_Meets.j1 kj2 a0_0 a0_2 a0_0 a0_1 a0_2 a0_3 a1_0 a1_1 a1_2 a1_3)) = some r:=by rw [if_neg (show ¬ (false = true) by decide)] at H;exact H
    clear H
    have H:=H1
    clear H1
    have HC18:=Ak H
    clear H
    have hnb19:=NB384_385.out
    have hnc19:=NB385_384.out
    have hcz20_0 : wc.cell? ⟨gb384,0,none⟩ = some (.int .i64 a0_0):=(kC BK384.out 0).trans rfl
    have hcz20_1 : wc.cell? ⟨gb384,1,none⟩ = some (.int .i64 a0_1):=(kC BK384.out 1).trans rfl
    have hcz20_2 : wc.cell? ⟨gb384,2,none⟩ = some (.int .i64 a0_2):=(kC BK384.out 2).trans rfl
    have hcz20_3 : wc.cell? ⟨gb384,3,none⟩ = some (.int .i64 a0_3):=(kC BK384.out 3).trans rfl
    have hfz20_0:=blk_frozen BK384.out 0
    have hfz20_1:=blk_frozen BK384.out 1
    have hfz20_2:=blk_frozen BK384.out 2
    have hfz20_3:=blk_frozen BK384.out 3
    have hcz21_0 : wc.cell? ⟨gb385,0,none⟩ = some (.int .i64 a1_0):=(kC BK385.out 0).trans rfl
    have hcz21_1 : wc.cell? ⟨gb385,1,none⟩ = some (.int .i64 a1_1):=(kC BK385.out 1).trans rfl
    have hcz21_2 : wc.cell? ⟨gb385,2,none⟩ = some (.int .i64 a1_2):=(kC BK385.out 2).trans rfl
    have hcz21_3 : wc.cell? ⟨gb385,3,none⟩ = some (.int .i64 a1_3):=(kC BK385.out 3).trans rfl
    have hfz21_0:=blk_frozen BK385.out 0
    have hfz21_1:=blk_frozen BK385.out 1
    have hfz21_2:=blk_frozen BK385.out 2
    have hfz21_3:=blk_frozen BK385.out 3
    go_upto_if 22 with (fail)
    repeat (go_quiet (fail);go_upto_if 22 with (fail))
    go_cut [5] (fun v5 wc => ∃ (kq : Nat) (x5_17 : Int),v5 = .int .i64 x5_17∧Aside0 (gazetteerref09_Meets.j1 kq x5_17 a0_2 a0_0 a0_1 a0_2 a0_3 a1_0 a1_1 a1_2 a1_3 = some r)∧Aside0 (kq ≤ kj2)∧Aside0 (wc.heap[gb384]? = some (.cells #[.int .i64 a0_0,.int .i64 a0_1,.int .i64 a0_2,.int .i64 a0_3] 35 (0,0)))∧Aside0 (wc.heap[gb385]? = some (.cells #[.int .i64 a1_0,.int .i64 a1_1,.int .i64 a1_2,.int .i64 a1_3] 35 (0,0)))∧Aside0 (Below w.heap.size w wc))
    case first =>
     have H:=HC18.out
     clear HC18
     by_cases c22 : a1_0 > a0_0
     ·rw [if_pos c22] at H
      have c22b0 : decide (a0_0 < a1_0) = true:=decide_eq_true c22
      clear c22
      (first|rw [c22b0]|(simp only [i64_w,i32_w];rw [c22b0])|skip)
      have H':=Ak H
      clear H
      have hnb23:=NB385_384.out
      have hnc23:=NB384_385.out
      have hcz24_0 : wc.cell? ⟨gb385,0,none⟩ = some (.int .i64 a1_0):=(kC BK385.out 0).trans rfl
      have hcz24_1 : wc.cell? ⟨gb385,1,none⟩ = some (.int .i64 a1_1):=(kC BK385.out 1).trans rfl
      have hcz24_2 : wc.cell? ⟨gb385,2,none⟩ = some (.int .i64 a1_2):=(kC BK385.out 2).trans rfl
      have hcz24_3 : wc.cell? ⟨gb385,3,none⟩ = some (.int .i64 a1_3):=(kC BK385.out 3).trans rfl
      have hfz24_0:=blk_frozen BK385.out 0
      have hfz24_1:=blk_frozen BK385.out 1
      have hfz24_2:=blk_frozen BK385.out 2
      have hfz24_3:=blk_frozen BK385.out 3
      go_wp2
      repeat (go_quiet (fail);try go_wp2)
      go_meet
      case rel => exact ⟨_,(a1_0),(by first|rfl|(simp;done)|(simp [*];done)),H',⟨by have:=HJ2.out;first|omega|exact Nat.le_refl _⟩,⟨by (with_reducible repeat (first|refine kN ?_ _|refine kD ?_|refine kA ?_ _));exact BK384.out⟩,⟨by (with_reducible repeat (first|refine kN ?_ _|refine kD ?_|refine kA ?_ _));exact BK385.out⟩,⟨by repeat (first|(with_reducible first|exact HB.out|apply bA|apply bN|apply bD|refine bS ?_ GE384.out|refine bS ?_ GE385.out)|exact HB.out)⟩⟩
     ·rw [if_neg c22] at H
      have c22b0 : decide (a0_0 < a1_0) = false:=decide_eq_false c22
      clear c22
      (first|rw [c22b0]|(simp only [i64_w,i32_w];rw [c22b0])|skip)
      have H':=Ak H
      clear H
      go_wp2
      repeat (go_quiet (fail);try go_wp2)
      go_meet
      case rel => exact ⟨_,(a0_0),(by first|rfl|(simp;done)|(simp [*];done)),H',⟨by have:=HJ2.out;first|omega|exact Nat.le_refl _⟩,⟨by (with_reducible repeat (first|refine kN ?_ _|refine kD ?_|refine kA ?_ _));exact BK384.out⟩,⟨by (with_reducible repeat (first|refine kN ?_ _|refine kD ?_|refine kA ?_ _));exact BK385.out⟩,⟨by repeat (first|(with_reducible first|exact HB.out|apply bA|apply bN|apply bD|refine bS ?_ GE384.out|refine bS ?_ GE385.out)|exact HB.out)⟩⟩
    case rest =>
     clear HC18
     try clear c1
     try clear c2
     try clear p2
     try clear c4
     try clear c7
     try clear c9
     try clear c14
     try clear c17
     try clear c19
     try clear c22
     try clear c22b0
     try clear c23
     try clear hcz10_0
     try clear hcz10_1
     try clear hcz10_2
     try clear hcz10_3
     try clear hcz12_0
     try clear hcz12_1
     try clear hcz12_2
     try clear hcz12_3
     try clear hcz15_0
     try clear hcz15_1
     try clear hcz15_2
     try clear hcz15_3
     try clear hcz20_0
     try clear hcz20_1
     try clear hcz20_2
     try clear hcz20_3
     try clear hcz21_0
     try clear hcz21_1
     try clear hcz21_2
     try clear hcz21_3
     try clear hcz24_0
     try clear hcz24_1
     try clear hcz24_2
     try clear hcz24_3
     try clear hfz10_0
     try clear hfz10_1
     try clear hfz10_2
     try clear hfz10_3
     try clear hfz12_0
     try clear hfz12_1
     try clear hfz12_2
     try clear hfz12_3
     try clear hfz15_0
     try clear hfz15_1
     try clear hfz15_2
     try clear hfz15_3
     try clear hfz20_0
     try clear hfz20_1
     try clear hfz20_2
     try clear hfz20_3
     try clear hfz21_0
     try clear hfz21_1
     try clear hfz21_2
     try clear hfz21_3
     try clear hfz24_0
     try clear hfz24_1
     try clear hfz24_2
     try clear hfz24_3
     try clear p2
     obtain ⟨kq,x5_17,rfl,HA,HJ17,BK384,BK385,HB⟩:=hcut
     cases kq with
     | zero => exact absurd HA.out (by simp [gazetteerref09_Meets.j1])
     | succ kj17 =>
      have H:=HA.out
      clear HA
      simp only [gazetteerref09_Meets.j1] at H
      have HC25:=Ak H
      clear H
      have hnb26:=NB385_384.out
      have hnc26:=NB384_385.out
      have hcz27_0 : wc.cell? ⟨gb385,0,none⟩ = some (.int .i64 a1_0):=(kC BK385.out 0).trans rfl
      have hcz27_1 : wc.cell? ⟨gb385,1,none⟩ = some (.int .i64 a1_1):=(kC BK385.out 1).trans rfl
      have hcz27_2 : wc.cell? ⟨gb385,2,none⟩ = some (.int .i64 a1_2):=(kC BK385.out 2).trans rfl
      have hcz27_3 : wc.cell? ⟨gb385,3,none⟩ = some (.int .i64 a1_3):=(kC BK385.out 3).trans rfl
      have hfz27_0:=blk_frozen BK385.out 0
      have hfz27_1:=blk_frozen BK385.out 1
      have hfz27_2:=blk_frozen BK385.out 2
      have hfz27_3:=blk_frozen BK385.out 3
      go_upto_if 28 with (fail)
      repeat (go_quiet (fail);go_upto_if 28 with (fail))
      go_cut [6] (fun v6 wc => ∃ (kq : Nat) (x6_24 : Int),v6 = .int .i64 x6_24∧Aside0 (gazetteerref09_Meets.j2 kq x5_17 x6_24 a0_0 a0_1 a0_2 a0_3 a1_0 a1_1 a1_2 a1_3 = some r)∧Aside0 (kq ≤ kj17)∧Aside0 (wc.heap[gb384]? = some (.cells #[.int .i64 a0_0,.int .i64 a0_1,.int .i64 a0_2,.int .i64 a0_3] 35 (0,0)))∧Aside0 (wc.heap[gb385]? = some (.cells #[.int .i64 a1_0,.int .i64 a1_1,.int .i64 a1_2,.int .i64 a1_3] 35 (0,0)))∧Aside0 (Below w.heap.size w wc))
      case first =>
       have H:=HC25.out
       clear HC25
       by_cases c28 : a1_2 > a0_2
       ·rw [if_pos c28] at H
        have c28b0 : decide (a0_2 < a1_2) = true:=decide_eq_true c28
        clear c28
        (first|rw [c28b0]|(simp only [i64_w,i32_w];rw [c28b0])|skip)
        have H':=Ak H
        clear H
        have hnb29:=NB385_384.out
        have hnc29:=NB384_385.out
        have hcz30_0 : wc.cell? ⟨gb385,0,none⟩ = some (.int .i64 a1_0):=(kC BK385.out 0).trans rfl
        have hcz30_1 : wc.cell? ⟨gb385,1,none⟩ = some (.int .i64 a1_1):=(kC BK385.out 1).trans rfl
        have hcz30_2 : wc.cell? ⟨gb385,2,none⟩ = some (.int .i64 a1_2):=(kC BK385.out 2).trans rfl
        have hcz30_3 : wc.cell? ⟨gb385,3,none⟩ = some (.int .i64 a1_3):=(kC BK385.out 3).trans rfl
        have hfz30_0:=blk_frozen BK385.out 0
        have hfz30_1:=blk_frozen BK385.out 1
        have hfz30_2:=blk_frozen BK385.out 2
        have hfz30_3:=blk_frozen BK385.out 3
        go_wp2
        repeat (go_quiet (fail);try go_wp2)
        go_meet
        case rel => exact ⟨_,(a1_2),(by first|rfl|(simp;done)|(simp [*];done)),H',⟨by have:=HJ2.out;have:=HJ17.out;first|omega|exact Nat.le_refl _⟩,⟨by (with_reducible repeat (first|refine kN ?_ _|refine kD ?_|refine kA ?_ _));exact BK384.out⟩,⟨by (with_reducible repeat (first|refine kN ?_ _|refine kD ?_|refine kA ?_ _));exact BK385.out⟩,⟨by repeat (first|(with_reducible first|exact HB.out|apply bA|apply bN|apply bD|refine bS ?_ GE384.out|refine bS ?_ GE385.out)|exact HB.out)⟩⟩
       ·rw [if_neg c28] at H
        have c28b0 : decide (a0_2 < a1_2) = false:=decide_eq_false c28
        clear c28
        (first|rw [c28b0]|(simp only [i64_w,i32_w];rw [c28b0])|skip)
        have H':=Ak H
        clear H
        go_wp2
        repeat (go_quiet (fail);try go_wp2)
        go_meet
        case rel => exact ⟨_,(a0_2),(by first|rfl|(simp;done)|(simp [*];done)),H',⟨by have:=HJ2.out;have:=HJ17.out;first|omega|exact Nat.le_refl _⟩,⟨by (with_reducible repeat (first|refine kN ?_ _|refine kD ?_|refine kA ?_ _));exact BK384.out⟩,⟨by (with_reducible repeat (first|refine kN ?_ _|refine kD ?_|refine kA ?_ _));exact BK385.out⟩,⟨by repeat (first|(with_reducible first|exact HB.out|apply bA|apply bN|apply bD|refine bS ?_ GE384.out|refine bS ?_ GE385.out)|exact HB.out)⟩⟩
      case rest =>
       clear HC25
       try clear c1
       try clear c2
       try clear p2
       try clear c4
       try clear c7
       try clear c9
       try clear c14
       try clear c17
       try clear c19
       try clear c22
       try clear c22b0
       try clear c23
       try clear c26
       try clear c28
       try clear c28b0
       try clear c29
       try clear hcz10_0
       try clear hcz10_1
       try clear hcz10_2
       try clear hcz10_3
       try clear hcz12_0
       try clear hcz12_1
       try clear hcz12_2
       try clear hcz12_3
       try clear hcz15_0
       try clear hcz15_1
       try clear hcz15_2
       try clear hcz15_3
       try clear hcz20_0
       try clear hcz20_1
       try clear hcz20_2
       try clear hcz20_3
       try clear hcz21_0
       try clear hcz21_1
       try clear hcz21_2
       try clear hcz21_3
       try clear hcz24_0
       try clear hcz24_1
       try clear hcz24_2
       try clear hcz24_3
       try clear hcz27_0
       try clear hcz27_1
       try clear hcz27_2
       try clear hcz27_3
       try clear hcz30_0
       try clear hcz30_1
       try clear hcz30_2
       try clear hcz30_3
       try clear hfz10_0
       try clear hfz10_1
       try clear hfz10_2
       try clear hfz10_3
       try clear hfz12_0
       try clear hfz12_1
       try clear hfz12_2
       try clear hfz12_3
       try clear hfz15_0
       try clear hfz15_1
       try clear hfz15_2
       try clear hfz15_3
       try clear hfz20_0
       try clear hfz20_1
       try clear hfz20_2
       try clear hfz20_3
       try clear hfz21_0
       try clear hfz21_1
       try clear hfz21_2
       try clear hfz21_3
       try clear hfz24_0
       try clear hfz24_1
       try clear hfz24_2
       try clear hfz24_3
       try clear hfz27_0
       try clear hfz27_1
       try clear hfz27_2
       try clear hfz27_3
       try clear hfz30_0
       try clear hfz30_1
       try clear hfz30_2
       try clear hfz30_3
       try clear p2
       obtain ⟨kq,x6_24,rfl,HA,HJ24,BK384,BK385,HB⟩:=hcut
       cases kq with
       | zero => exact absurd HA.out (by simp [gazetteerref09_Meets.j2])
       | succ kj24 =>
        have H:=HA.out
        clear HA
        simp only [gazetteerref09_Meets.j2] at H
        replace H:=Option.bind_eq_some_iff.mp H
        obtain ⟨t388,A310,H⟩:=H
        replace H : (if t388 = true then ((gazetteerref09_inside.f a1_0 a1_1 x5_17).bind fun t389 => (if t389 = true then ((gazetteerref09_inside.f a0_2 a0_3 x6_24).bind fun t390 => (if t390 = true then ((gazetteerref09_inside.f a1_2 a1_3 x6_24).bind fun t391 => (some t391)) else (some false))) else (some false))) else (some false)) = some r:=H
        have A31:=Ak A310
        clear A310
        by_cases c32 : t388 = true
        ·subst c32
         have H1 : ((gazetteerref09_inside.f a1_0 a1_1 x5_17).bind fun t389 => (if t389 = true then ((gazetteerref09_inside.f a0_2 a0_3 x6_24).bind fun t390 => (if t390 = true then ((gazetteerref09_inside.f a1_2 a1_3 x6_24).bind fun t391 => (some t391)) else (some false))) else (some false))) = some r:=by rw [if_pos rfl] at H;exact H
         clear H
         have H:=H1
         clear H1
         replace H:=Option.bind_eq_some_iff.mp H
         obtain ⟨t389,A330,H⟩:=H
         replace H : (if t389 = true then ((gazetteerref09_inside.f a0_2 a0_3 x6_24).bind fun t390 => (if t390 = true then ((gazetteerref09_inside.f a1_2 a1_3 x6_24).bind fun t391 => (some t391)) else (some false))) else (some false)) = some r:=H
         have A33:=Ak A330
         clear A330
         by_cases c34 : t389 = true
         ·subst c34
          have H1 : ((gazetteerref09_inside.f a0_2 a0_3 x6_24).bind fun t390 => (if t390 = true then ((gazetteerref09_inside.f a1_2 a1_3 x6_24).bind fun t391 => (some t391)) else (some false))) = some r:=by rw [if_pos rfl] at H;exact H
          clear H
          have H:=H1
          clear H1
          replace H:=Option.bind_eq_some_iff.mp H
          obtain ⟨t390,A350,H⟩:=H
          replace H : (if t390 = true then ((gazetteerref09_inside.f a1_2 a1_3 x6_24).bind fun t391 => (some t391)) else (some false)) = some r:=H
          have A35:=Ak A350
          clear A350
          by_cases c36 : t390 = true
          ·subst c36
           have H1 : ((gazetteerref09_inside.f a1_2 a1_3 x6_24).bind fun t391 => (some t391)) = some r:=by rw [if_pos rfl] at H;exact H
           clear H
           have H:=H1
           clear H1
           replace H:=Option.bind_eq_some_iff.mp H
           obtain ⟨t391,A370,H⟩:=H
           replace H : (some t391) = some r:=H
           have A37:=Ak A370
           clear A370
           obtain rfl:=Option.some.inj H
           have hnb38:=NB384_385.out
           have hnc38:=NB385_384.out
           have hcz39_0 : wc.cell? ⟨gb384,0,none⟩ = some (.int .i64 a0_0):=(kC BK384.out 0).trans rfl
           have hcz39_1 : wc.cell? ⟨gb384,1,none⟩ = some (.int .i64 a0_1):=(kC BK384.out 1).trans rfl
           have hcz39_2 : wc.cell? ⟨gb384,2,none⟩ = some (.int .i64 a0_2):=(kC BK384.out 2).trans rfl
           have hcz39_3 : wc.cell? ⟨gb384,3,none⟩ = some (.int .i64 a0_3):=(kC BK384.out 3).trans rfl
           have hfz39_0:=blk_frozen BK384.out 0
           have hfz39_1:=blk_frozen BK384.out 1
           have hfz39_2:=blk_frozen BK384.out 2
           have hfz39_3:=blk_frozen BK384.out 3
           go_wp2_with (first|(go_at_call 62;(with_reducible refine (gazetteerref09_inside.calls a0_0 a0_1 x5_17 true _ A31.out).mono ?_);rintro e w' ⟨rfl,⟨nd,rfl⟩⟩;(try first|exact ⟨rfl,_,World.drewN_drewN _ _ _⟩|exact ⟨rfl,_,Eq.trans (World.drewN_drewN _ _ _) (congrArg (World.drewN _) (Nat.add_assoc _ _ _))⟩);have hcz40_0 : wc.cell? ⟨gb385,0,none⟩ = some (.int .i64 a1_0):=(kC BK385.out 0).trans rfl;have hcz40_1 : wc.cell? ⟨gb385,1,none⟩ = some (.int .i64 a1_1):=(kC BK385.out 1).trans rfl;have hcz40_2 : wc.cell? ⟨gb385,2,none⟩ = some (.int .i64 a1_2):=(kC BK385.out 2).trans rfl;have hcz40_3 : wc.cell? ⟨gb385,3,none⟩ = some (.int .i64 a1_3):=(kC BK385.out 3).trans rfl;have hfz40_0:=blk_frozen BK385.out 0;have hfz40_1:=blk_frozen BK385.out 1;have hfz40_2:=blk_frozen BK385.out 2;have hfz40_3:=blk_frozen BK385.out 3)|(go_at_call 62;(with_reducible refine (gazetteerref09_inside.calls a1_0 a1_1 x5_17 true _ A33.out).mono ?_);rintro e w' ⟨rfl,⟨nd,rfl⟩⟩;(try first|exact ⟨rfl,_,World.drewN_drewN _ _ _⟩|exact ⟨rfl,_,Eq.trans (World.drewN_drewN _ _ _) (congrArg (World.drewN _) (Nat.add_assoc _ _ _))⟩))|(go_at_call 62;(with_reducible refine (gazetteerref09_inside.calls a0_2 a0_3 x6_24 true _ A35.out).mono ?_);rintro e w' ⟨rfl,⟨nd,rfl⟩⟩;(try first|exact ⟨rfl,_,World.drewN_drewN _ _ _⟩|exact ⟨rfl,_,Eq.trans (World.drewN_drewN _ _ _) (congrArg (World.drewN _) (Nat.add_assoc _ _ _))⟩))|(go_at_call 62;(with_reducible refine (gazetteerref09_inside.calls a1_2 a1_3 x6_24 t391 _ A37.out).mono ?_);rintro e w' ⟨rfl,⟨nd,rfl⟩⟩;(try first|exact ⟨rfl,_,World.drewN_drewN _ _ _⟩|exact ⟨rfl,_,Eq.trans (World.drewN_drewN _ _ _) (congrArg (World.drewN _) (Nat.add_assoc _ _ _))⟩)))
           repeat (go_quiet (first|(go_at_call 62;(with_reducible refine (gazetteerref09_inside.calls a0_0 a0_1 x5_17 true _ A31.out).mono ?_);rintro e w' ⟨rfl,⟨nd,rfl⟩⟩;(try first|exact ⟨rfl,_,World.drewN_drewN _ _ _⟩|exact ⟨rfl,_,Eq.trans (World.drewN_drewN _ _ _) (congrArg (World.drewN _) (Nat.add_assoc _ _ _))⟩);have hcz40_0 : wc.cell? ⟨gb385,0,none⟩ = some (.int .i64 a1_0):=(kC BK385.out 0).trans rfl;have hcz40_1 : wc.cell? ⟨gb385,1,none⟩ = some (.int .i64 a1_1):=(kC BK385.out 1).trans rfl;have hcz40_2 : wc.cell? ⟨gb385,2,none⟩ = some (.int .i64 a1_2):=(kC BK385.out 2).trans rfl;have hcz40_3 : wc.cell? ⟨gb385,3,none⟩ = some (.int .i64 a1_3):=(kC BK385.out 3).trans rfl;have hfz40_0:=blk_frozen BK385.out 0;have hfz40_1:=blk_frozen BK385.out 1;have hfz40_2:=blk_frozen BK385.out 2;have hfz40_3:=blk_frozen BK385.out 3)|(go_at_call 62;(with_reducible refine (gazetteerref09_inside.calls a1_0 a1_1 x5_17 true _ A33.out).mono ?_);rintro e w' ⟨rfl,⟨nd,rfl⟩⟩;(try first|exact ⟨rfl,_,World.drewN_drewN _ _ _⟩|exact ⟨rfl,_,Eq.trans (World.drewN_drewN _ _ _) (congrArg (World.drewN _) (Nat.add_assoc _ _ _))⟩))|(go_at_call 62;(with_reducible refine (gazetteerref09_inside.calls a0_2 a0_3 x6_24 true _ A35.out).mono ?_);rintro e w' ⟨rfl,⟨nd,rfl⟩⟩;(try first|exact ⟨rfl,_,World.drewN_drewN _ _ _⟩|exact ⟨rfl,_,Eq.trans (World.drewN_drewN _ _ _) (congrArg (World.drewN _) (Nat.add_assoc _ _ _))⟩))|(go_at_call 62;(with_reducible refine (gazetteerref09_inside.calls a1_2 a1_3 x6_24 t391 _ A37.out).mono ?_);rintro e w' ⟨rfl,⟨nd,rfl⟩⟩;(try first|exact ⟨rfl,_,World.drewN_drewN _ _ _⟩|exact ⟨rfl,_,Eq.trans (World.drewN_drewN _ _ _) (congrArg (World.drewN _) (Nat.add_assoc _ _ _))⟩)));try go_wp2_with (first|(go_at_call 62;(with_reducible refine (gazetteerref09_inside.calls a0_0 a0_1 x5_17 true _ A31.out).mono ?_);rintro e w' ⟨rfl,⟨nd,rfl⟩⟩;(try first|exact ⟨rfl,_,World.drewN_drewN _ _ _⟩|exact ⟨rfl,_,Eq.trans (World.drewN_drewN _ _ _) (congrArg (World.drewN _) (Nat.add_assoc _ _ _))⟩);have hcz40_0 : wc.cell? ⟨gb385,0,none⟩ = some (.int .i64 a1_0):=(kC BK385.out 0).trans rfl;have hcz40_1 : wc.cell? ⟨gb385,1,none⟩ = some (.int .i64 a1_1):=(kC BK385.out 1).trans rfl;have hcz40_2 : wc.cell? ⟨gb385,2,none⟩ = some (.int .i64 a1_2):=(kC BK385.out 2).trans rfl;have hcz40_3 : wc.cell? ⟨gb385,3,none⟩ = some (.int .i64 a1_3):=(kC BK385.out 3).trans rfl;have hfz40_0:=blk_frozen BK385.out 0;have hfz40_1:=blk_frozen BK385.out 1;have hfz40_2:=blk_frozen BK385.out 2;have hfz40_3:=blk_frozen BK385.out 3)|(go_at_call 62;(with_reducible refine (gazetteerref09_inside.calls a1_0 a1_1 x5_17 true _ A33.out).mono ?_);rintro e w' ⟨rfl,⟨nd,rfl⟩⟩;(try first|exact ⟨rfl,_,World.drewN_drewN _ _ _⟩|exact ⟨rfl,_,Eq.trans (World.drewN_drewN _ _ _) (congrArg (World.drewN _) (Nat.add_assoc _ _ _))⟩))|(go_at_call 62;(with_reducible refine (gazetteerref09_inside.calls a0_2 a0_3 x6_24 true _ A35.out).mono ?_);rintro e w' ⟨rfl,⟨nd,rfl⟩⟩;(try first|exact ⟨rfl,_,World.drewN_drewN _ _ _⟩|exact ⟨rfl,_,Eq.trans (World.drewN_drewN _ _ _) (congrArg (World.drewN _) (Nat.add_assoc _ _ _))⟩))|(go_at_call 62;(with_reducible refine (gazetteerref09_inside.calls a1_2 a1_3 x6_24 t391 _ A37.out).mono ?_);rintro e w' ⟨rfl,⟨nd,rfl⟩⟩;(try first|exact ⟨rfl,_,World.drewN_drewN _ _ _⟩|exact ⟨rfl,_,Eq.trans (World.drewN_drewN _ _ _) (congrArg (World.drewN _) (Nat.add_assoc _ _ _))⟩))))
           go_ret
           exact ⟨by first|rfl|(simp [errW_none,errW_some] <;> rfl)|(simp [*,errW_none,errW_some] <;> rfl),by repeat (first|(with_reducible first|exact HB.out|apply bA|apply bN|apply bD|refine bS ?_ GE384.out|refine bS ?_ GE385.out)|exact HB.out)⟩
          ·replace c36:=Bool.eq_false_iff.mpr c36
           subst c36
           have H1 : (some false) = some r:=by rw [if_neg (show ¬ (false = true) by decide)] at H;exact H
           clear H
           have H:=H1
           clear H1
           obtain rfl:=Option.some.inj H
           have hnb41:=NB384_385.out
           have hnc41:=NB385_384.out
           have hcz42_0 : wc.cell? ⟨gb384,0,none⟩ = some (.int .i64 a0_0):=(kC BK384.out 0).trans rfl
           have hcz42_1 : wc.cell? ⟨gb384,1,none⟩ = some (.int .i64 a0_1):=(kC BK384.out 1).trans rfl
           have hcz42_2 : wc.cell? ⟨gb384,2,none⟩ = some (.int .i64 a0_2):=(kC BK384.out 2).trans rfl
           have hcz42_3 : wc.cell? ⟨gb384,3,none⟩ = some (.int .i64 a0_3):=(kC BK384.out 3).trans rfl
           have hfz42_0:=blk_frozen BK384.out 0
           have hfz42_1:=blk_frozen BK384.out 1
           have hfz42_2:=blk_frozen BK384.out 2
           have hfz42_3:=blk_frozen BK384.out 3
           go_wp2_with (first|(go_at_call 62;(with_reducible refine (gazetteerref09_inside.calls a0_0 a0_1 x5_17 true _ A31.out).mono ?_);rintro e w' ⟨rfl,⟨nd,rfl⟩⟩;(try first|exact ⟨rfl,_,World.drewN_drewN _ _ _⟩|exact ⟨rfl,_,Eq.trans (World.drewN_drewN _ _ _) (congrArg (World.drewN _) (Nat.add_assoc _ _ _))⟩);have hcz43_0 : wc.cell? ⟨gb385,0,none⟩ = some (.int .i64 a1_0):=(kC BK385.out 0).trans rfl;have hcz43_1 : wc.cell? ⟨gb385,1,none⟩ = some (.int .i64 a1_1):=(kC BK385.out 1).trans rfl;have hcz43_2 : wc.cell? ⟨gb385,2,none⟩ = some (.int .i64 a1_2):=(kC BK385.out 2).trans rfl;have hcz43_3 : wc.cell? ⟨gb385,3,none⟩ = some (.int .i64 a1_3):=(kC BK385.out 3).trans rfl;have hfz43_0:=blk_frozen BK385.out 0;have hfz43_1:=blk_frozen BK385.out 1;have hfz43_2:=blk_frozen BK385.out 2;have hfz43_3:=blk_frozen BK385.out 3)|(go_at_call 62;(with_reducible refine (gazetteerref09_inside.calls a1_0 a1_1 x5_17 true _ A33.out).mono ?_);rintro e w' ⟨rfl,⟨nd,rfl⟩⟩;(try first|exact ⟨rfl,_,World.drewN_drewN _ _ _⟩|exact ⟨rfl,_,Eq.trans (World.drewN_drewN _ _ _) (congrArg (World.drewN _) (Nat.add_assoc _ _ _))⟩))|(go_at_call 62;(with_reducible refine (gazetteerref09_inside.calls a0_2 a0_3 x6_24 false _ A35.out).mono ?_);rintro e w' ⟨rfl,⟨nd,rfl⟩⟩;(try first|exact ⟨rfl,_,World.drewN_drewN _ _ _⟩|exact ⟨rfl,_,Eq.trans (World.drewN_drewN _ _ _) (congrArg (World.drewN _) (Nat.add_assoc _ _ _))⟩)))
           repeat (go_quiet (first|(go_at_call 62;(with_reducible refine (gazetteerref09_inside.calls a0_0 a0_1 x5_17 true _ A31.out).mono ?_);rintro e w' ⟨rfl,⟨nd,rfl⟩⟩;(try first|exact ⟨rfl,_,World.drewN_drewN _ _ _⟩|exact ⟨rfl,_,Eq.trans (World.drewN_drewN _ _ _) (congrArg (World.drewN _) (Nat.add_assoc _ _ _))⟩);have hcz43_0 : wc.cell? ⟨gb385,0,none⟩ = some (.int .i64 a1_0):=(kC BK385.out 0).trans rfl;have hcz43_1 : wc.cell? ⟨gb385,1,none⟩ = some (.int .i64 a1_1):=(kC BK385.out 1).trans rfl;have hcz43_2 : wc.cell? ⟨gb385,2,none⟩ = some (.int .i64 a1_2):=(kC BK385.out 2).trans rfl;have hcz43_3 : wc.cell? ⟨gb385,3,none⟩ = some (.int .i64 a1_3):=(kC BK385.out 3).trans rfl;have hfz43_0:=blk_frozen BK385.out 0;have hfz43_1:=blk_frozen BK385.out 1;have hfz43_2:=blk_frozen BK385.out 2;have hfz43_3:=blk_frozen BK385.out 3)|(go_at_call 62;(with_reducible refine (gazetteerref09_inside.calls a1_0 a1_1 x5_17 true _ A33.out).mono ?_);rintro e w' ⟨rfl,⟨nd,rfl⟩⟩;(try first|exact ⟨rfl,_,World.drewN_drewN _ _ _⟩|exact ⟨rfl,_,Eq.trans (World.drewN_drewN _ _ _) (congrArg (World.drewN _) (Nat.add_assoc _ _ _))⟩))|(go_at_call 62;(with_reducible refine (gazetteerref09_inside.calls a0_2 a0_3 x6_24 false _ A35.out).mono ?_);rintro e w' ⟨rfl,⟨nd,rfl⟩⟩;(try first|exact ⟨rfl,_,World.drewN_drewN _ _ _⟩|exact ⟨rfl,_,Eq.trans (World.drewN_drewN _ _ _) (congrArg (World.drewN _) (Nat.add_assoc _ _ _))⟩)));try go_wp2_with (first|(go_at_call 62;(with_reducible refine (gazetteerref09_inside.calls a0_0 a0_1 x5_17 true _ A31.out).mono ?_);rintro e w' ⟨rfl,⟨nd,rfl⟩⟩;(try first|exact ⟨rfl,_,World.drewN_drewN _ _ _⟩|exact ⟨rfl,_,Eq.trans (World.drewN_drewN _ _ _) (congrArg (World.drewN _) (Nat.add_assoc _ _ _))⟩);have hcz43_0 : wc.cell? ⟨gb385,0,none⟩ = some (.int .i64 a1_0):=(kC BK385.out 0).trans rfl;have hcz43_1 : wc.cell? ⟨gb385,1,none⟩ = some (.int .i64 a1_1):=(kC BK385.out 1).trans rfl;have hcz43_2 : wc.cell? ⟨gb385,2,none⟩ = some (.int .i64 a1_2):=(kC BK385.out 2).trans rfl;have hcz43_3 : wc.cell? ⟨gb385,3,none⟩ = some (.int .i64 a1_3):=(kC BK385.out 3).trans rfl;have hfz43_0:=blk_frozen BK385.out 0;have hfz43_1:=blk_frozen BK385.out 1;have hfz43_2:=blk_frozen BK385.out 2;have hfz43_3:=blk_frozen BK385.out 3)|(go_at_call 62;(with_reducible refine (gazetteerref09_inside.calls a1_0 a1_1 x5_17 true _ A33.out).mono ?_);rintro e w' ⟨rfl,⟨nd,rfl⟩⟩;(try first|exact ⟨rfl,_,World.drewN_drewN _ _ _⟩|exact ⟨rfl,_,Eq.trans (World.drewN_drewN _ _ _) (congrArg (World.drewN _) (Nat.add_assoc _ _ _))⟩))|(go_at_call 62;(with_reducible refine (gazetteerref09_inside.calls a0_2 a0_3 x6_24 false _ A35.out).mono ?_);rintro e w' ⟨rfl,⟨nd,rfl⟩⟩;(try first|exact ⟨rfl,_,World.drewN_drewN _ _ _⟩|exact ⟨rfl,_,Eq.trans (World.drewN_drewN _ _ _) (congrArg (World.drewN _) (Nat.add_assoc _ _ _))⟩))))
           go_ret
           exact ⟨by first|rfl|(simp [errW_none,errW_some] <;> rfl)|(simp [*,errW_none,errW_some] <;> rfl),by repeat (first|(with_reducible first|exact HB.out|apply bA|apply bN|apply bD|refine bS ?_ GE384.out|refine bS ?_ GE385.out)|exact HB.out)⟩
         ·replace c34:=Bool.eq_false_iff.mpr c34
          subst c34
          have H1 : (some false) = some r:=by rw [if_neg (show ¬ (false = true) by decide)] at H;exact H
          clear H
          have H:=H1
          clear H1
          obtain rfl:=Option.some.inj H
          have hnb44:=NB384_385.out
          have hnc44:=NB385_384.out
          have hcz45_0 : wc.cell? ⟨gb384,0,none⟩ = some (.int .i64 a0_0):=(kC BK384.out 0).trans rfl
          have hcz45_1 : wc.cell? ⟨gb384,1,none⟩ = some (.int .i64 a0_1):=(kC BK384.out 1).trans rfl
          have hcz45_2 : wc.cell? ⟨gb384,2,none⟩ = some (.int .i64 a0_2):=(kC BK384.out 2).trans rfl
          have hcz45_3 : wc.cell? ⟨gb384,3,none⟩ = some (.int .i64 a0_3):=(kC BK384.out 3).trans rfl
          have hfz45_0:=blk_frozen BK384.out 0
          have hfz45_1:=blk_frozen BK384.out 1
          have hfz45_2:=blk_frozen BK384.out 2
          have hfz45_3:=blk_frozen BK384.out 3
          go_wp2_with (first|(go_at_call 62;(with_reducible refine (gazetteerref09_inside.calls a0_0 a0_1 x5_17 true _ A31.out).mono ?_);rintro e w' ⟨rfl,⟨nd,rfl⟩⟩;(try first|exact ⟨rfl,_,World.drewN_drewN _ _ _⟩|exact ⟨rfl,_,Eq.trans (World.drewN_drewN _ _ _) (congrArg (World.drewN _) (Nat.add_assoc _ _ _))⟩);have hcz46_0 : wc.cell? ⟨gb385,0,none⟩ = some (.int .i64 a1_0):=(kC BK385.out 0).trans rfl;have hcz46_1 : wc.cell? ⟨gb385,1,none⟩ = some (.int .i64 a1_1):=(kC BK385.out 1).trans rfl;have hcz46_2 : wc.cell? ⟨gb385,2,none⟩ = some (.int .i64 a1_2):=(kC BK385.out 2).trans rfl;have hcz46_3 : wc.cell? ⟨gb385,3,none⟩ = some (.int .i64 a1_3):=(kC BK385.out 3).trans rfl;have hfz46_0:=blk_frozen BK385.out 0;have hfz46_1:=blk_frozen BK385.out 1;have hfz46_2:=blk_frozen BK385.out 2;have hfz46_3:=blk_frozen BK385.out 3)|(go_at_call 62;(with_reducible refine (gazetteerref09_inside.calls a1_0 a1_1 x5_17 false _ A33.out).mono ?_);rintro e w' ⟨rfl,⟨nd,rfl⟩⟩;(try first|exact ⟨rfl,_,World.drewN_drewN _ _ _⟩|exact ⟨rfl,_,Eq.trans (World.drewN_drewN _ _ _) (congrArg (World.drewN _) (Nat.add_assoc _ _ _))⟩)))
          repeat (go_quiet (first|(go_at_call 62;(with_reducible refine (gazetteerref09_inside.calls a0_0 a0_1 x5_17 true _ A31.out).mono ?_);rintro e w' ⟨rfl,⟨nd,rfl⟩⟩;(try first|exact ⟨rfl,_,World.drewN_drewN _ _ _⟩|exact ⟨rfl,_,Eq.trans (World.drewN_drewN _ _ _) (congrArg (World.drewN _) (Nat.add_assoc _ _ _))⟩);have hcz46_0 : wc.cell? ⟨gb385,0,none⟩ = some (.int .i64 a1_0):=(kC BK385.out 0).trans rfl;have hcz46_1 : wc.cell? ⟨gb385,1,none⟩ = some (.int .i64 a1_1):=(kC BK385.out 1).trans rfl;have hcz46_2 : wc.cell? ⟨gb385,2,none⟩ = some (.int .i64 a1_2):=(kC BK385.out 2).trans rfl;have hcz46_3 : wc.cell? ⟨gb385,3,none⟩ = some (.int .i64 a1_3):=(kC BK385.out 3).trans rfl;have hfz46_0:=blk_frozen BK385.out 0;have hfz46_1:=blk_frozen BK385.out 1;have hfz46_2:=blk_frozen BK385.out 2;have hfz46_3:=blk_frozen BK385.out 3)|(go_at_call 62;(with_reducible refine (gazetteerref09_inside.calls a1_0 a1_1 x5_17 false _ A33.out).mono ?_);rintro e w' ⟨rfl,⟨nd,rfl⟩⟩;(try first|exact ⟨rfl,_,World.drewN_drewN _ _ _⟩|exact ⟨rfl,_,Eq.trans (World.drewN_drewN _ _ _) (congrArg (World.drewN _) (Nat.add_assoc _ _ _))⟩)));try go_wp2_with (first|(go_at_call 62;(with_reducible refine (gazetteerref09_inside.calls a0_0 a0_1 x5_17 true _ A31.out).mono ?_);rintro e w' ⟨rfl,⟨nd,rfl⟩⟩;(try first|exact ⟨rfl,_,World.drewN_drewN _ _ _⟩|exact ⟨rfl,_,Eq.trans (World.drewN_drewN _ _ _) (congrArg (World.drewN _) (Nat.add_assoc _ _ _))⟩);have hcz46_0 : wc.cell? ⟨gb385,0,none⟩ = some (.int .i64 a1_0):=(kC BK385.out 0).trans rfl;have hcz46_1 : wc.cell? ⟨gb385,1,none⟩ = some (.int .i64 a1_1):=(kC BK385.out 1).trans rfl;have hcz46_2 : wc.cell? ⟨gb385,2,none⟩ = some (.int .i64 a1_2):=(kC BK385.out 2).trans rfl;have hcz46_3 : wc.cell? ⟨gb385,3,none⟩ = some (.int .i64 a1_3):=(kC BK385.out 3).trans rfl;have hfz46_0:=blk_frozen BK385.out 0;have hfz46_1:=blk_frozen BK385.out 1;have hfz46_2:=blk_frozen BK385.out 2;have hfz46_3:=blk_frozen BK385.out 3)|(go_at_call 62;(with_reducible refine (gazetteerref09_inside.calls a1_0 a1_1 x5_17 false _ A33.out).mono ?_);rintro e w' ⟨rfl,⟨nd,rfl⟩⟩;(try first|exact ⟨rfl,_,World.drewN_drewN _ _ _⟩|exact ⟨rfl,_,Eq.trans (World.drewN_drewN _ _ _) (congrArg (World.drewN _) (Nat.add_assoc _ _ _))⟩))))
          go_ret
          exact ⟨by first|rfl|(simp [errW_none,errW_some] <;> rfl)|(simp [*,errW_none,errW_some] <;> rfl),by repeat (first|(with_reducible first|exact HB.out|apply bA|apply bN|apply bD|refine bS ?_ GE384.out|refine bS ?_ GE385.out)|exact HB.out)⟩
        ·replace c32:=Bool.eq_false_iff.mpr c32
         subst c32
         have H1 : (some false) = some r:=by rw [if_neg (show ¬ (false = true) by decide)] at H;exact H
         clear H
         have H:=H1
         clear H1
         obtain rfl:=Option.some.inj H
         have hnb47:=NB384_385.out
         have hnc47:=NB385_384.out
         have hcz48_0 : wc.cell? ⟨gb384,0,none⟩ = some (.int .i64 a0_0):=(kC BK384.out 0).trans rfl
         have hcz48_1 : wc.cell? ⟨gb384,1,none⟩ = some (.int .i64 a0_1):=(kC BK384.out 1).trans rfl
         have hcz48_2 : wc.cell? ⟨gb384,2,none⟩ = some (.int .i64 a0_2):=(kC BK384.out 2).trans rfl
         have hcz48_3 : wc.cell? ⟨gb384,3,none⟩ = some (.int .i64 a0_3):=(kC BK384.out 3).trans rfl
         have hfz48_0:=blk_frozen BK384.out 0
         have hfz48_1:=blk_frozen BK384.out 1
         have hfz48_2:=blk_frozen BK384.out 2
         have hfz48_3:=blk_frozen BK384.out 3
         go_wp2_with (first|(go_at_call 62;(with_reducible refine (gazetteerref09_inside.calls a0_0 a0_1 x5_17 false _ A31.out).mono ?_);rintro e w' ⟨rfl,⟨nd,rfl⟩⟩;(try first|exact ⟨rfl,_,World.drewN_drewN _ _ _⟩|exact ⟨rfl,_,Eq.trans (World.drewN_drewN _ _ _) (congrArg (World.drewN _) (Nat.add_assoc _ _ _))⟩)))
         repeat (go_quiet (first|(go_at_call 62;(with_reducible refine (gazetteerref09_inside.calls a0_0 a0_1 x5_17 false _ A31.out).mono ?_);rintro e w' ⟨rfl,⟨nd,rfl⟩⟩;(try first|exact ⟨rfl,_,World.drewN_drewN _ _ _⟩|exact ⟨rfl,_,Eq.trans (World.drewN_drewN _ _ _) (congrArg (World.drewN _) (Nat.add_assoc _ _ _))⟩)));try go_wp2_with (first|(go_at_call 62;(with_reducible refine (gazetteerref09_inside.calls a0_0 a0_1 x5_17 false _ A31.out).mono ?_);rintro e w' ⟨rfl,⟨nd,rfl⟩⟩;(try first|exact ⟨rfl,_,World.drewN_drewN _ _ _⟩|exact ⟨rfl,_,Eq.trans (World.drewN_drewN _ _ _) (congrArg (World.drewN _) (Nat.add_assoc _ _ _))⟩))))
         go_ret
         exact ⟨by first|rfl|(simp [errW_none,errW_some] <;> rfl)|(simp [*,errW_none,errW_some] <;> rfl),by repeat (first|(with_reducible first|exact HB.out|apply bA|apply bN|apply bD|refine bS ?_ GE384.out|refine bS ?_ GE385.out)|exact HB.out)⟩
def gazetteerref09_Covers.f (a0_0 : Int) (a0_1 : Int) (a0_2 : Int) (a0_3 : Int) (a1_0 : Int) (a1_1 : Int) (a1_2 : Int) (a1_3 : Int) : Option (Bool) := (gazetteerref09_Box.f a0_0 a0_1 a0_2 a0_3).bind fun t394 => (if t394 = true then ((gazetteerref09_Box.f a1_0 a1_1 a1_2 a1_3).bind fun t395 => (if t395 = true then ((gazetteerref09_inside.f a0_0 a0_1 a1_0).bind fun t396 => (if t396 = true then ((gazetteerref09_inside.f a0_0 a0_1 a1_1).bind fun t397 => (if t397 = true then ((gazetteerref09_inside.f a0_2 a0_3 a1_2).bind fun t398 => (if t398 = true then ((gazetteerref09_inside.f a0_2 a0_3 a1_3).bind fun t399 => (some t399)) else (some false))) else (some false))) else (some false))) else (some false))) else (some false))
set_option maxHeartbeats 8000000 in
set_option maxRecDepth 100000 in
theorem gazetteerref09_Covers.calls (a0_0 : Int) (a0_1 : Int) (a0_2 : Int) (a0_3 : Int) (a1_0 : Int) (a1_1 : Int) (a1_2 : Int) (a1_3 : Int) (r : Bool) (w : World) (h : gazetteerref09_Covers.f a0_0 a0_1 a0_2 a0_3 a1_0 a1_1 a1_2 a1_3 = some r) :
  Calls Try.prog 45 #[.agg #[.int .i64 a0_0,.int .i64 a0_1,.int .i64 a0_2,.int .i64 a0_3],.agg #[.int .i64 a1_0,.int .i64 a1_1,.int .i64 a1_2,.int .i64 a1_3]] w fun e w' => e = .returned (.bool r)∧Below w.heap.size w w':=by
 have hu35:=Try.underlying35
 have HB:=Ak (Below.refl w.heap.size w)
 have H : ((gazetteerref09_Box.f a0_0 a0_1 a0_2 a0_3).bind fun t394 => (if t394 = true then ((gazetteerref09_Box.f a1_0 a1_1 a1_2 a1_3).bind fun t395 => (if t395 = true then ((gazetteerref09_inside.f a0_0 a0_1 a1_0).bind fun t396 => (if t396 = true then ((gazetteerref09_inside.f a0_0 a0_1 a1_1).bind fun t397 => (if t397 = true then ((gazetteerref09_inside.f a0_2 a0_3 a1_2).bind fun t398 => (if t398 = true then ((gazetteerref09_inside.f a0_2 a0_3 a1_3).bind fun t399 => (some t399)) else (some false))) else (some false))) else (some false))) else (some false))) else (some false))) = some r:=h
 clear h
 replace H:=Option.bind_eq_some_iff.mp H
 obtain ⟨t394,A30,H⟩:=H
 replace H : (if t394 = true then ((gazetteerref09_Box.f a1_0 a1_1 a1_2 a1_3).bind fun t395 => (if t395 = true then ((gazetteerref09_inside.f a0_0 a0_1 a1_0).bind fun t396 => (if t396 = true then ((gazetteerref09_inside.f a0_0 a0_1 a1_1).bind fun t397 => (if t397 = true then ((gazetteerref09_inside.f a0_2 a0_3 a1_2).bind fun t398 => (if t398 = true then ((gazetteerref09_inside.f a0_2 a0_3 a1_3).bind fun t399 => (some t399)) else (some false))) else (some false))) else (some false))) else (some false))) else (some false)) = some r:=H
 have A3:=Ak A30
 clear A30
 by_cases c4 : t394 = true
 ·subst c4
  have H1 : ((gazetteerref09_Box.f a1_0 a1_1 a1_2 a1_3).bind fun t395 => (if t395 = true then ((gazetteerref09_inside.f a0_0 a0_1 a1_0).bind fun t396 => (if t396 = true then ((gazetteerref09_inside.f a0_0 a0_1 a1_1).bind fun t397 => (if t397 = true then ((gazetteerref09_inside.f a0_2 a0_3 a1_2).bind fun t398 => (if t398 = true then ((gazetteerref09_inside.f a0_2 a0_3 a1_3).bind fun t399 => (some t399)) else (some false))) else (some false))) else (some false))) else (some false))) = some r:=by rw [if_pos rfl] at H;exact H
  clear H
  have H:=H1
  clear H1
  replace H:=Option.bind_eq_some_iff.mp H
  obtain ⟨t395,A50,H⟩:=H
  replace H : (if t395 = true then ((gazetteerref09_inside.f a0_0 a0_1 a1_0).bind fun t396 => (if t396 = true then ((gazetteerref09_inside.f a0_0 a0_1 a1_1).bind fun t397 => (if t397 = true then ((gazetteerref09_inside.f a0_2 a0_3 a1_2).bind fun t398 => (if t398 = true then ((gazetteerref09_inside.f a0_2 a0_3 a1_3).bind fun t399 => (some t399)) else (some false))) else (some false))) else (some false))) else (some false)) = some r:=H
  have A5:=Ak A50
  clear A50
  by_cases c6 : t395 = true
  ·subst c6
   have H1 : ((gazetteerref09_inside.f a0_0 a0_1 a1_0).bind fun t396 => (if t396 = true then ((gazetteerref09_inside.f a0_0 a0_1 a1_1).bind fun t397 => (if t397 = true then ((gazetteerref09_inside.f a0_2 a0_3 a1_2).bind fun t398 => (if t398 = true then ((gazetteerref09_inside.f a0_2 a0_3 a1_3).bind fun t399 => (some t399)) else (some false))) else (some false))) else (some false))) = some r:=by rw [if_pos rfl] at H;exact H
   clear H
   have H:=H1
   clear H1
   replace H:=Option.bind_eq_some_iff.mp H
   obtain ⟨t396,A70,H⟩:=H
   replace H : (if t396 = true then ((gazetteerref09_inside.f a0_0 a0_1 a1_1).bind fun t397 => (if t397 = true then ((gazetteerref09_inside.f a0_2 a0_3 a1_2).bind fun t398 => (if t398 = true then ((gazetteerref09_inside.f a0_2 a0_3 a1_3).bind fun t399 => (some t399)) else (some false))) else (some false))) else (some false)) = some r:=H
   have A7:=Ak A70
   clear A70
   by_cases c8 : t396 = true
   ·subst c8
    have H1 : ((gazetteerref09_inside.f a0_0 a0_1 a1_1).bind fun t397 => (if t397 = true then ((gazetteerref09_inside.f a0_2 a0_3 a1_2).bind fun t398 => (if t398 = true then ((gazetteerref09_inside.f a0_2 a0_3 a1_3).bind fun t399 => (some t399)) else (some false))) else (some false))) = some r:=by rw [if_pos rfl] at H;exact H
    clear H
    have H:=H1
    clear H1
    replace H:=Option.bind_eq_some_iff.mp H
    obtain ⟨t397,A90,H⟩:=H
    replace H : (if t397 = true then ((gazetteerref09_inside.f a0_2 a0_3 a1_2).bind fun t398 => (if t398 = true then ((gazetteerref09_inside.f a0_2 a0_3 a1_3).bind fun t399 => (some t399)) else (some false))) else (some false)) = some r:=H
    have A9:=Ak A90
    clear A90
    by_cases c10 : t397 = true
    ·subst c10
     have H1 : ((gazetteerref09_inside.f a0_2 a0_3 a1_2).bind fun t398 => (if t398 = true then ((gazetteerref09_inside.f a0_2 a0_3 a1_3).bind fun t399 => (some t399)) else (some false))) = some r:=by rw [if_pos rfl] at H;exact H
     clear H
     have H:=H1
     clear H1
     replace H:=Option.bind_eq_some_iff.mp H
     obtain ⟨t398,A110,H⟩:=H
     replace H : (if t398 = true then ((gazetteerref09_inside.f a0_2 a0_3 a1_3).bind fun t399 => (some t399)) else (some false)) = some r:=H
     have A11:=Ak A110
     clear A110
     by_cases c12 : t398 = true
     ·subst c12
      have H1 : ((gazetteerref09_inside.f a0_2 a0_3 a1_3).bind fun t399 => (some t399)) = some r:=by rw [if_pos rfl] at H;exact H
      clear H
      have H:=H1
      clear H1
      replace H:=Option.bind_eq_some_iff.mp H
      obtain ⟨t399,A130,H⟩:=H
      replace H : (some t399) = some r:=H
      have A13:=Ak A130
      clear A130
      obtain rfl:=Option.some.inj H
      go_enter Try.func45,Try.ntmps45
      go_wp2_with (first|((with_reducible refine gate_dst (N:=2) rfl ?_);refine box_event ?hg (N:=2) ?hd (cs:=#[.int .i64 a0_0,.int .i64 a0_1,.int .i64 a0_2,.int .i64 a0_3]) (t:=35) ?hr ?_;(case hd => rfl);(case hg => rfl);(case hr => first|(go_simp;done)|(go_simp;rfl));intro gb392 hg w14 hbox hb;have n0_:=Kh HB hb;have n1_:=Ak (hbox);have n2_:=Ak ((by rw [hg];exact (below_size HB.out) : w.heap.size ≤ gb392));have n3_:=Ak ((by rw [hg];exact (below_size HB.out) : w.heap.size ≤ gb392));clear HB;have HB:=n0_;have BK392:=n1_;have GW392:=n2_;have GE392:=n3_;clear n0_ n1_ n2_ n3_;clear hb hbox hg)|((with_reducible refine gate_dst (N:=3) rfl ?_);refine box_event ?hg (N:=3) ?hd (cs:=#[.int .i64 a1_0,.int .i64 a1_1,.int .i64 a1_2,.int .i64 a1_3]) (t:=35) ?hr ?_;(case hd => rfl);(case hg => rfl);(case hr => first|(go_simp;done)|(go_simp;rfl));intro gb393 hg w15 hbox hb;have n0_:=Kb BK392 hb;have n1_:=Kh HB hb;have n2_:=Ak (hbox);have n3_:=Ak ((by rw [hg];exact (below_size HB.out) : w.heap.size ≤ gb393));have n4_:=Ak ((by rw [hg];exact (below_size HB.out) : w.heap.size ≤ gb393));have n5_:=Ak ((by rw [hg];exact Nat.ne_of_lt (blk_lt (g:=gb392) (o:=.cells #[.int .i64 a0_0,.int .i64 a0_1,.int .i64 a0_2,.int .i64 a0_3] 35 (0,0)) BK392.out) : gb392 ≠ gb393));have n6_:=Ak ((by rw [hg];exact Nat.ne_of_gt (blk_lt (g:=gb392) (o:=.cells #[.int .i64 a0_0,.int .i64 a0_1,.int .i64 a0_2,.int .i64 a0_3] 35 (0,0)) BK392.out) : gb393 ≠ gb392));clear BK392;clear HB;have BK392:=n0_;have HB:=n1_;have BK393:=n2_;have GW393:=n3_;have GE393:=n4_;have NB392_393:=n5_;have NB393_392:=n6_;clear n0_ n1_ n2_ n3_ n4_ n5_ n6_;clear hb hbox hg;have hnb16:=NB392_393.out;have hnc16:=NB393_392.out;have hcz17_0 : w15.cell? ⟨gb392,0,none⟩ = some (.int .i64 a0_0):=(kC BK392.out 0).trans rfl;have hcz17_1 : w15.cell? ⟨gb392,1,none⟩ = some (.int .i64 a0_1):=(kC BK392.out 1).trans rfl;have hcz17_2 : w15.cell? ⟨gb392,2,none⟩ = some (.int .i64 a0_2):=(kC BK392.out 2).trans rfl;have hcz17_3 : w15.cell? ⟨gb392,3,none⟩ = some (.int .i64 a0_3):=(kC BK392.out 3).trans rfl;have hfz17_0:=blk_frozen BK392.out 0;have hfz17_1:=blk_frozen BK392.out 1;have hfz17_2:=blk_frozen BK392.out 2;have hfz17_3:=blk_frozen BK392.out 3)|((with_reducible refine gate_callee (f:=59) rfl ?_);refine goesL_ (some 6) rfl rfl Try.func59 (by kernel_rfl) rfl #[.agg #[.int .i64 a0_0,.int .i64 a0_1,.int .i64 a0_2,.int .i64 a0_3]] rfl (by (try simp only [List.map_toArray,List.map_cons,List.map_nil]);first|done|rfl|(simp only [List.length_drop,List.length_take];rfl)) ?_;(with_reducible refine (gazetteerref09_Box.calls a0_0 a0_1 a0_2 a0_3 true _ A3.out).mono ?_);rintro e w18 ⟨rfl,hb⟩;refine ⟨_,rfl,?_⟩;have n0_:=Kb BK392 hb;have n1_:=Kb BK393 hb;have n2_:=Kh HB hb;clear BK392;clear BK393;clear HB;have BK392:=n0_;have BK393:=n1_;have HB:=n2_;clear n0_ n1_ n2_;(try clear hb);(try clear hb2);(try clear hk);(try clear hi);have hcz19_0 : w18.cell? ⟨gb393,0,none⟩ = some (.int .i64 a1_0):=(kC BK393.out 0).trans rfl;have hcz19_1 : w18.cell? ⟨gb393,1,none⟩ = some (.int .i64 a1_1):=(kC BK393.out 1).trans rfl;have hcz19_2 : w18.cell? ⟨gb393,2,none⟩ = some (.int .i64 a1_2):=(kC BK393.out 2).trans rfl;have hcz19_3 : w18.cell? ⟨gb393,3,none⟩ = some (.int .i64 a1_3):=(kC BK393.out 3).trans rfl;have hfz19_0:=blk_frozen BK393.out 0;have hfz19_1:=blk_frozen BK393.out 1;have hfz19_2:=blk_frozen BK393.out 2;have hfz19_3:=blk_frozen BK393.out 3)|(go_at_call 59;(with_reducible refine (gazetteerref09_Box.calls a1_0 a1_1 a1_2 a1_3 true _ A5.out).mono ?_);rintro e w20 ⟨rfl,hb⟩;have n0_:=Kb BK392 hb;have n1_:=Kb BK393 hb;have n2_:=Kh HB hb;clear BK392;clear BK393;clear HB;have BK392:=n0_;have BK393:=n1_;have HB:=n2_;clear n0_ n1_ n2_;(try clear hb);(try clear hb2);(try clear hk);(try clear hi);have hcz21_0 : w20.cell? ⟨gb392,0,none⟩ = some (.int .i64 a0_0):=(kC BK392.out 0).trans rfl;have hcz21_1 : w20.cell? ⟨gb392,1,none⟩ = some (.int .i64 a0_1):=(kC BK392.out 1).trans rfl;have hcz21_2 : w20.cell? ⟨gb392,2,none⟩ = some (.int .i64 a0_2):=(kC BK392.out 2).trans rfl;have hcz21_3 : w20.cell? ⟨gb392,3,none⟩ = some (.int .i64 a0_3):=(kC BK392.out 3).trans rfl;have hfz21_0:=blk_frozen BK392.out 0;have hfz21_1:=blk_frozen BK392.out 1;have hfz21_2:=blk_frozen BK392.out 2;have hfz21_3:=blk_frozen BK392.out 3;have hcz22_0 : w20.cell? ⟨gb393,0,none⟩ = some (.int .i64 a1_0):=(kC BK393.out 0).trans rfl;have hcz22_1 : w20.cell? ⟨gb393,1,none⟩ = some (.int .i64 a1_1):=(kC BK393.out 1).trans rfl;have hcz22_2 : w20.cell? ⟨gb393,2,none⟩ = some (.int .i64 a1_2):=(kC BK393.out 2).trans rfl;have hcz22_3 : w20.cell? ⟨gb393,3,none⟩ = some (.int .i64 a1_3):=(kC BK393.out 3).trans rfl;have hfz22_0:=blk_frozen BK393.out 0;have hfz22_1:=blk_frozen BK393.out 1;have hfz22_2:=blk_frozen BK393.out 2;have hfz22_3:=blk_frozen BK393.out 3)|(go_at_call 62;(with_reducible refine (gazetteerref09_inside.calls a0_0 a0_1 a1_0 true _ A7.out).mono ?_);rintro e w' ⟨rfl,⟨nd,rfl⟩⟩)|(go_at_call 62;(with_reducible refine (gazetteerref09_inside.calls a0_0 a0_1 a1_1 true _ A9.out).mono ?_);rintro e w' ⟨rfl,⟨nd,rfl⟩⟩)|(go_at_call 62;(with_reducible refine (gazetteerref09_inside.calls a0_2 a0_3 a1_2 true _ A11.out).mono ?_);rintro e w' ⟨rfl,⟨nd,rfl⟩⟩)|(go_at_call 62;(with_reducible refine (gazetteerref09_inside.calls a0_2 a0_3 a1_3 t399 _ A13.out).mono ?_);rintro e w' ⟨rfl,⟨nd,rfl⟩⟩))
      go_ret
      exact ⟨by first|rfl|(simp [errW_none,errW_some] <;> rfl)|(simp [*,errW_none,errW_some] <;> rfl),by repeat (first|(with_reducible first|exact HB.out|apply bA|apply bN|apply bD|refine bS ?_ GE392.out|refine bS ?_ GE393.out)|exact HB.out)⟩
     ·replace c12:=Bool.eq_false_iff.mpr c12
      subst c12
      have H1 : (some false) = some r:=by rw [if_neg (show ¬ (false = true) by decide)] at H;exact H
      clear H
      have H:=H1
      clear H1
      obtain rfl:=Option.some.inj H
      go_enter Try.func45,Try.ntmps45
      go_wp2_with (first|((with_reducible refine gate_dst (N:=2) rfl ?_);refine box_event ?hg (N:=2) ?hd (cs:=#[.int .i64 a0_0,.int .i64 a0_1,.int .i64 a0_2,.int .i64 a0_3]) (t:=35) ?hr ?_;(case hd => rfl);(case hg => rfl);(case hr => first|(go_simp;done)|(go_simp;rfl));intro gb392 hg w23 hbox hb;have n0_:=Kh HB hb;have n1_:=Ak (hbox);have n2_:=Ak ((by rw [hg];exact (below_size HB.out) : w.heap.size ≤ gb392));have n3_:=Ak ((by rw [hg];exact (below_size HB.out) : w.heap.size ≤ gb392));clear HB;have HB:=n0_;have BK392:=n1_;have GW392:=n2_;have GE392:=n3_;clear n0_ n1_ n2_ n3_;clear hb hbox hg)|((with_reducible refine gate_dst (N:=3) rfl ?_);refine box_event ?hg (N:=3) ?hd (cs:=#[.int .i64 a1_0,.int .i64 a1_1,.int .i64 a1_2,.int .i64 a1_3]) (t:=35) ?hr ?_;(case hd => rfl);(case hg => rfl);(case hr => first|(go_simp;done)|(go_simp;rfl));intro gb393 hg w24 hbox hb;have n0_:=Kb BK392 hb;have n1_:=Kh HB hb;have n2_:=Ak (hbox);have n3_:=Ak ((by rw [hg];exact (below_size HB.out) : w.heap.size ≤ gb393));have n4_:=Ak ((by rw [hg];exact (below_size HB.out) : w.heap.size ≤ gb393));have n5_:=Ak ((by rw [hg];exact Nat.ne_of_lt (blk_lt (g:=gb392) (o:=.cells #[.int .i64 a0_0,.int .i64 a0_1,.int .i64 a0_2,.int .i64 a0_3] 35 (0,0)) BK392.out) : gb392 ≠ gb393));have n6_:=Ak ((by rw [hg];exact Nat.ne_of_gt (blk_lt (g:=gb392) (o:=.cells #[.int .i64 a0_0,.int .i64 a0_1,.int .i64 a0_2,.int .i64 a0_3] 35 (0,0)) BK392.out) : gb393 ≠ gb392));clear BK392;clear HB;have BK392:=n0_;have HB:=n1_;have BK393:=n2_;have GW393:=n3_;have GE393:=n4_;have NB392_393:=n5_;have NB393_392:=n6_;clear n0_ n1_ n2_ n3_ n4_ n5_ n6_;clear hb hbox hg;have hnb25:=NB392_393.out;have hnc25:=NB393_392.out;have hcz26_0 : w24.cell? ⟨gb392,0,none⟩ = some (.int .i64 a0_0):=(kC BK392.out 0).trans rfl;have hcz26_1 : w24.cell? ⟨gb392,1,none⟩ = some (.int .i64 a0_1):=(kC BK392.out 1).trans rfl;have hcz26_2 : w24.cell? ⟨gb392,2,none⟩ = some (.int .i64 a0_2):=(kC BK392.out 2).trans rfl;have hcz26_3 : w24.cell? ⟨gb392,3,none⟩ = some (.int .i64 a0_3):=(kC BK392.out 3).trans rfl;have hfz26_0:=blk_frozen BK392.out 0;have hfz26_1:=blk_frozen BK392.out 1;have hfz26_2:=blk_frozen BK392.out 2;have hfz26_3:=blk_frozen BK392.out 3)|((with_reducible refine gate_callee (f:=59) rfl ?_);refine goesL_ (some 6) rfl rfl Try.func59 (by kernel_rfl) rfl #[.agg #[.int .i64 a0_0,.int .i64 a0_1,.int .i64 a0_2,.int .i64 a0_3]] rfl (by (try simp only [List.map_toArray,List.map_cons,List.map_nil]);first|done|rfl|(simp only [List.length_drop,List.length_take];rfl)) ?_;(with_reducible refine (gazetteerref09_Box.calls a0_0 a0_1 a0_2 a0_3 true _ A3.out).mono ?_);rintro e w27 ⟨rfl,hb⟩;refine ⟨_,rfl,?_⟩;have n0_:=Kb BK392 hb;have n1_:=Kb BK393 hb;have n2_:=Kh HB hb;clear BK392;clear BK393;clear HB;have BK392:=n0_;have BK393:=n1_;have HB:=n2_;clear n0_ n1_ n2_;(try clear hb);(try clear hb2);(try clear hk);(try clear hi);have hcz28_0 : w27.cell? ⟨gb393,0,none⟩ = some (.int .i64 a1_0):=(kC BK393.out 0).trans rfl;have hcz28_1 : w27.cell? ⟨gb393,1,none⟩ = some (.int .i64 a1_1):=(kC BK393.out 1).trans rfl;have hcz28_2 : w27.cell? ⟨gb393,2,none⟩ = some (.int .i64 a1_2):=(kC BK393.out 2).trans rfl;have hcz28_3 : w27.cell? ⟨gb393,3,none⟩ = some (.int .i64 a1_3):=(kC BK393.out 3).trans rfl;have hfz28_0:=blk_frozen BK393.out 0;have hfz28_1:=blk_frozen BK393.out 1;have hfz28_2:=blk_frozen BK393.out 2;have hfz28_3:=blk_frozen BK393.out 3)|(go_at_call 59;(with_reducible refine (gazetteerref09_Box.calls a1_0 a1_1 a1_2 a1_3 true _ A5.out).mono ?_);rintro e w29 ⟨rfl,hb⟩;have n0_:=Kb BK392 hb;have n1_:=Kb BK393 hb;have n2_:=Kh HB hb;clear BK392;clear BK393;clear HB;have BK392:=n0_;have BK393:=n1_;have HB:=n2_;clear n0_ n1_ n2_;(try clear hb);(try clear hb2);(try clear hk);(try clear hi);have hcz30_0 : w29.cell? ⟨gb392,0,none⟩ = some (.int .i64 a0_0):=(kC BK392.out 0).trans rfl;have hcz30_1 : w29.cell? ⟨gb392,1,none⟩ = some (.int .i64 a0_1):=(kC BK392.out 1).trans rfl;have hcz30_2 : w29.cell? ⟨gb392,2,none⟩ = some (.int .i64 a0_2):=(kC BK392.out 2).trans rfl;have hcz30_3 : w29.cell? ⟨gb392,3,none⟩ = some (.int .i64 a0_3):=(kC BK392.out 3).trans rfl;have hfz30_0:=blk_frozen BK392.out 0;have hfz30_1:=blk_frozen BK392.out 1;have hfz30_2:=blk_frozen BK392.out 2;have hfz30_3:=blk_frozen BK392.out 3;have hcz31_0 : w29.cell? ⟨gb393,0,none⟩ = some (.int .i64 a1_0):=(kC BK393.out 0).trans rfl;have hcz31_1 : w29.cell? ⟨gb393,1,none⟩ = some (.int .i64 a1_1):=(kC BK393.out 1).trans rfl;have hcz31_2 : w29.cell? ⟨gb393,2,none⟩ = some (.int .i64 a1_2):=(kC BK393.out 2).trans rfl;have hcz31_3 : w29.cell? ⟨gb393,3,none⟩ = some (.int .i64 a1_3):=(kC BK393.out 3).trans rfl;have hfz31_0:=blk_frozen BK393.out 0;have hfz31_1:=blk_frozen BK393.out 1;have hfz31_2:=blk_frozen BK393.out 2;have hfz31_3:=blk_frozen BK393.out 3)|(go_at_call 62;(with_reducible refine (gazetteerref09_inside.calls a0_0 a0_1 a1_0 true _ A7.out).mono ?_);rintro e w' ⟨rfl,⟨nd,rfl⟩⟩)|(go_at_call 62;(with_reducible refine (gazetteerref09_inside.calls a0_0 a0_1 a1_1 true _ A9.out).mono ?_);rintro e w' ⟨rfl,⟨nd,rfl⟩⟩)|(go_at_call 62;(with_reducible refine (gazetteerref09_inside.calls a0_2 a0_3 a1_2 false _ A11.out).mono ?_);rintro e w' ⟨rfl,⟨nd,rfl⟩⟩))
      go_ret
      exact ⟨by first|rfl|(simp [errW_none,errW_some] <;> rfl)|(simp [*,errW_none,errW_some] <;> rfl),by repeat (first|(with_reducible first|exact HB.out|apply bA|apply bN|apply bD|refine bS ?_ GE392.out|refine bS ?_ GE393.out)|exact HB.out)⟩
    ·replace c10:=Bool.eq_false_iff.mpr c10
     subst c10
     have H1 : (some false) = some r:=by rw [if_neg (show ¬ (false = true) by decide)] at H;exact H
     clear H
     have H:=H1
     clear H1
     obtain rfl:=Option.some.inj H
     go_enter Try.func45,Try.ntmps45
     go_wp2_with (first|((with_reducible refine gate_dst (N:=2) rfl ?_);refine box_event ?hg (N:=2) ?hd (cs:=#[.int .i64 a0_0,.int .i64 a0_1,.int .i64 a0_2,.int .i64 a0_3]) (t:=35) ?hr ?_;(case hd => rfl);(case hg => rfl);(case hr => first|(go_simp;done)|(go_simp;rfl));intro gb392 hg w32 hbox hb;have n0_:=Kh HB hb;have n1_:=Ak (hbox);have n2_:=Ak ((by rw [hg];exact (below_size HB.out) : w.heap.size ≤ gb392));have n3_:=Ak ((by rw [hg];exact (below_size HB.out) : w.heap.size ≤ gb392));clear HB;have HB:=n0_;have BK392:=n1_;have GW392:=n2_;have GE392:=n3_;clear n0_ n1_ n2_ n3_;clear hb hbox hg)|((with_reducible refine gate_dst (N:=3) rfl ?_);refine box_event ?hg (N:=3) ?hd (cs:=#[.int .i64 a1_0,.int .i64 a1_1,.int .i64 a1_2,.int .i64 a1_3]) (t:=35) ?hr ?_;(case hd => rfl);(case hg => rfl);(case hr => first|(go_simp;done)|(go_simp;rfl));intro gb393 hg w33 hbox hb;have n0_:=Kb BK392 hb;have n1_:=Kh HB hb;have n2_:=Ak (hbox);have n3_:=Ak ((by rw [hg];exact (below_size HB.out) : w.heap.size ≤ gb393));have n4_:=Ak ((by rw [hg];exact (below_size HB.out) : w.heap.size ≤ gb393));have n5_:=Ak ((by rw [hg];exact Nat.ne_of_lt (blk_lt (g:=gb392) (o:=.cells #[.int .i64 a0_0,.int .i64 a0_1,.int .i64 a0_2,.int .i64 a0_3] 35 (0,0)) BK392.out) : gb392 ≠ gb393));have n6_:=Ak ((by rw [hg];exact Nat.ne_of_gt (blk_lt (g:=gb392) (o:=.cells #[.int .i64 a0_0,.int .i64 a0_1,.int .i64 a0_2,.int .i64 a0_3] 35 (0,0)) BK392.out) : gb393 ≠ gb392));clear BK392;clear HB;have BK392:=n0_;have HB:=n1_;have BK393:=n2_;have GW393:=n3_;have GE393:=n4_;have NB392_393:=n5_;have NB393_392:=n6_;clear n0_ n1_ n2_ n3_ n4_ n5_ n6_;clear hb hbox hg;have hnb34:=NB392_393.out;have hnc34:=NB393_392.out;have hcz35_0 : w33.cell? ⟨gb392,0,none⟩ = some (.int .i64 a0_0):=(kC BK392.out 0).trans rfl;have hcz35_1 : w33.cell? ⟨gb392,1,none⟩ = some (.int .i64 a0_1):=(kC BK392.out 1).trans rfl;have hcz35_2 : w33.cell? ⟨gb392,2,none⟩ = some (.int .i64 a0_2):=(kC BK392.out 2).trans rfl;have hcz35_3 : w33.cell? ⟨gb392,3,none⟩ = some (.int .i64 a0_3):=(kC BK392.out 3).trans rfl;have hfz35_0:=blk_frozen BK392.out 0;have hfz35_1:=blk_frozen BK392.out 1;have hfz35_2:=blk_frozen BK392.out 2;have hfz35_3:=blk_frozen BK392.out 3)|((with_reducible refine gate_callee (f:=59) rfl ?_);refine goesL_ (some 6) rfl rfl Try.func59 (by kernel_rfl) rfl #[.agg #[.int .i64 a0_0,.int .i64 a0_1,.int .i64 a0_2,.int .i64 a0_3]] rfl (by (try simp only [List.map_toArray,List.map_cons,List.map_nil]);first|done|rfl|(simp only [List.length_drop,List.length_take];rfl)) ?_;(with_reducible refine (gazetteerref09_Box.calls a0_0 a0_1 a0_2 a0_3 true _ A3.out).mono ?_);rintro e w36 ⟨rfl,hb⟩;refine ⟨_,rfl,?_⟩;have n0_:=Kb BK392 hb;have n1_:=Kb BK393 hb;have n2_:=Kh HB hb;clear BK392;clear BK393;clear HB;have BK392:=n0_;have BK393:=n1_;have HB:=n2_;clear n0_ n1_ n2_;(try clear hb);(try clear hb2);(try clear hk);(try clear hi);have hcz37_0 : w36.cell? ⟨gb393,0,none⟩ = some (.int .i64 a1_0):=(kC BK393.out 0).trans rfl;have hcz37_1 : w36.cell? ⟨gb393,1,none⟩ = some (.int .i64 a1_1):=(kC BK393.out 1).trans rfl;have hcz37_2 : w36.cell? ⟨gb393,2,none⟩ = some (.int .i64 a1_2):=(kC BK393.out 2).trans rfl;have hcz37_3 : w36.cell? ⟨gb393,3,none⟩ = some (.int .i64 a1_3):=(kC BK393.out 3).trans rfl;have hfz37_0:=blk_frozen BK393.out 0;have hfz37_1:=blk_frozen BK393.out 1;have hfz37_2:=blk_frozen BK393.out 2;have hfz37_3:=blk_frozen BK393.out 3)|(go_at_call 59;(with_reducible refine (gazetteerref09_Box.calls a1_0 a1_1 a1_2 a1_3 true _ A5.out).mono ?_);rintro e w38 ⟨rfl,hb⟩;have n0_:=Kb BK392 hb;have n1_:=Kb BK393 hb;have n2_:=Kh HB hb;clear BK392;clear BK393;clear HB;have BK392:=n0_;have BK393:=n1_;have HB:=n2_;clear n0_ n1_ n2_;(try clear hb);(try clear hb2);(try clear hk);(try clear hi);have hcz39_0 : w38.cell? ⟨gb392,0,none⟩ = some (.int .i64 a0_0):=(kC BK392.out 0).trans rfl;have hcz39_1 : w38.cell? ⟨gb392,1,none⟩ = some (.int .i64 a0_1):=(kC BK392.out 1).trans rfl;have hcz39_2 : w38.cell? ⟨gb392,2,none⟩ = some (.int .i64 a0_2):=(kC BK392.out 2).trans rfl;have hcz39_3 : w38.cell? ⟨gb392,3,none⟩ = some (.int .i64 a0_3):=(kC BK392.out 3).trans rfl;have hfz39_0:=blk_frozen BK392.out 0;have hfz39_1:=blk_frozen BK392.out 1;have hfz39_2:=blk_frozen BK392.out 2;have hfz39_3:=blk_frozen BK392.out 3;have hcz40_0 : w38.cell? ⟨gb393,0,none⟩ = some (.int .i64 a1_0):=(kC BK393.out 0).trans rfl;have hcz40_1 : w38.cell? ⟨gb393,1,none⟩ = some (.int .i64 a1_1):=(kC BK393.out 1).trans rfl;have hcz40_2 : w38.cell? ⟨gb393,2,none⟩ = some (.int .i64 a1_2):=(kC BK393.out 2).trans rfl;have hcz40_3 : w38.cell? ⟨gb393,3,none⟩ = some (.int .i64 a1_3):=(kC BK393.out 3).trans rfl;have hfz40_0:=blk_frozen BK393.out 0;have hfz40_1:=blk_frozen BK393.out 1;have hfz40_2:=blk_frozen BK393.out 2;have hfz40_3:=blk_frozen BK393.out 3)|(go_at_call 62;(with_reducible refine (gazetteerref09_inside.calls a0_0 a0_1 a1_0 true _ A7.out).mono ?_);rintro e w' ⟨rfl,⟨nd,rfl⟩⟩)|(go_at_call 62;(with_reducible refine (gazetteerref09_inside.calls a0_0 a0_1 a1_1 false _ A9.out).mono ?_);rintro e w' ⟨rfl,⟨nd,rfl⟩⟩))
     go_ret
     exact ⟨by first|rfl|(simp [errW_none,errW_some] <;> rfl)|(simp [*,errW_none,errW_some] <;> rfl),by repeat (first|(with_reducible first|exact HB.out|apply bA|apply bN|apply bD|refine bS ?_ GE392.out|refine bS ?_ GE393.out)|exact HB.out)⟩
   ·replace c8:=Bool.eq_false_iff.mpr c8
    subst c8
    have H1 : (some false) = some r:=by rw [if_neg (show ¬ (false = true) by decide)] at H;exact H
    clear H
    have H:=H1
    clear H1
    obtain rfl:=Option.some.inj H
    go_enter Try.func45,Try.ntmps45
    go_wp2_with (first|((with_reducible refine gate_dst (N:=2) rfl ?_);refine box_event ?hg (N:=2) ?hd (cs:=#[.int .i64 a0_0,.int .i64 a0_1,.int .i64 a0_2,.int .i64 a0_3]) (t:=35) ?hr ?_;(case hd => rfl);(case hg => rfl);(case hr => first|(go_simp;done)|(go_simp;rfl));intro gb392 hg w41 hbox hb;have n0_:=Kh HB hb;have n1_:=Ak (hbox);have n2_:=Ak ((by rw [hg];exact (below_size HB.out) : w.heap.size ≤ gb392));have n3_:=Ak ((by rw [hg];exact (below_size HB.out) : w.heap.size ≤ gb392));clear HB;have HB:=n0_;have BK392:=n1_;have GW392:=n2_;have GE392:=n3_;clear n0_ n1_ n2_ n3_;clear hb hbox hg)|((with_reducible refine gate_dst (N:=3) rfl ?_);refine box_event ?hg (N:=3) ?hd (cs:=#[.int .i64 a1_0,.int .i64 a1_1,.int .i64 a1_2,.int .i64 a1_3]) (t:=35) ?hr ?_;(case hd => rfl);(case hg => rfl);(case hr => first|(go_simp;done)|(go_simp;rfl));intro gb393 hg w42 hbox hb;have n0_:=Kb BK392 hb;have n1_:=Kh HB hb;have n2_:=Ak (hbox);have n3_:=Ak ((by rw [hg];exact (below_size HB.out) : w.heap.size ≤ gb393));have n4_:=Ak ((by rw [hg];exact (below_size HB.out) : w.heap.size ≤ gb393));have n5_:=Ak ((by rw [hg];exact Nat.ne_of_lt (blk_lt (g:=gb392) (o:=.cells #[.int .i64 a0_0,.int .i64 a0_1,.int .i64 a0_2,.int .i64 a0_3] 35 (0,0)) BK392.out) : gb392 ≠ gb393));have n6_:=Ak ((by rw [hg];exact Nat.ne_of_gt (blk_lt (g:=gb392) (o:=.cells #[.int .i64 a0_0,.int .i64 a0_1,.int .i64 a0_2,.int .i64 a0_3] 35 (0,0)) BK392.out) : gb393 ≠ gb392));clear BK392;clear HB;have BK392:=n0_;have HB:=n1_;have BK393:=n2_;have GW393:=n3_;have GE393:=n4_;have NB392_393:=n5_;have NB393_392:=n6_;clear n0_ n1_ n2_ n3_ n4_ n5_ n6_;clear hb hbox hg;have hnb43:=NB392_393.out;have hnc43:=NB393_392.out;have hcz44_0 : w42.cell? ⟨gb392,0,none⟩ = some (.int .i64 a0_0):=(kC BK392.out 0).trans rfl;have hcz44_1 : w42.cell? ⟨gb392,1,none⟩ = some (.int .i64 a0_1):=(kC BK392.out 1).trans rfl;have hcz44_2 : w42.cell? ⟨gb392,2,none⟩ = some (.int .i64 a0_2):=(kC BK392.out 2).trans rfl;have hcz44_3 : w42.cell? ⟨gb392,3,none⟩ = some (.int .i64 a0_3):=(kC BK392.out 3).trans rfl;have hfz44_0:=blk_frozen BK392.out 0;have hfz44_1:=blk_frozen BK392.out 1;have hfz44_2:=blk_frozen BK392.out 2;have hfz44_3:=blk_frozen BK392.out 3)|((with_reducible refine gate_callee (f:=59) rfl ?_);refine goesL_ (some 6) rfl rfl Try.func59 (by kernel_rfl) rfl #[.agg #[.int .i64 a0_0,.int .i64 a0_1,.int .i64 a0_2,.int .i64 a0_3]] rfl (by (try simp only [List.map_toArray,List.map_cons,List.map_nil]);first|done|rfl|(simp only [List.length_drop,List.length_take];rfl)) ?_;(with_reducible refine (gazetteerref09_Box.calls a0_0 a0_1 a0_2 a0_3 true _ A3.out).mono ?_);rintro e w45 ⟨rfl,hb⟩;refine ⟨_,rfl,?_⟩;have n0_:=Kb BK392 hb;have n1_:=Kb BK393 hb;have n2_:=Kh HB hb;clear BK392;clear BK393;clear HB;have BK392:=n0_;have BK393:=n1_;have HB:=n2_;clear n0_ n1_ n2_;(try clear hb);(try clear hb2);(try clear hk);(try clear hi);have hcz46_0 : w45.cell? ⟨gb393,0,none⟩ = some (.int .i64 a1_0):=(kC BK393.out 0).trans rfl;have hcz46_1 : w45.cell? ⟨gb393,1,none⟩ = some (.int .i64 a1_1):=(kC BK393.out 1).trans rfl;have hcz46_2 : w45.cell? ⟨gb393,2,none⟩ = some (.int .i64 a1_2):=(kC BK393.out 2).trans rfl;have hcz46_3 : w45.cell? ⟨gb393,3,none⟩ = some (.int .i64 a1_3):=(kC BK393.out 3).trans rfl;have hfz46_0:=blk_frozen BK393.out 0;have hfz46_1:=blk_frozen BK393.out 1;have hfz46_2:=blk_frozen BK393.out 2;have hfz46_3:=blk_frozen BK393.out 3)|(go_at_call 59;(with_reducible refine (gazetteerref09_Box.calls a1_0 a1_1 a1_2 a1_3 true _ A5.out).mono ?_);rintro e w47 ⟨rfl,hb⟩;have n0_:=Kb BK392 hb;have n1_:=Kb BK393 hb;have n2_:=Kh HB hb;clear BK392;clear BK393;clear HB;have BK392:=n0_;have BK393:=n1_;have HB:=n2_;clear n0_ n1_ n2_;(try clear hb);(try clear hb2);(try clear hk);(try clear hi);have hcz48_0 : w47.cell? ⟨gb392,0,none⟩ = some (.int .i64 a0_0):=(kC BK392.out 0).trans rfl;have hcz48_1 : w47.cell? ⟨gb392,1,none⟩ = some (.int .i64 a0_1):=(kC BK392.out 1).trans rfl;have hcz48_2 : w47.cell? ⟨gb392,2,none⟩ = some (.int .i64 a0_2):=(kC BK392.out 2).trans rfl;have hcz48_3 : w47.cell? ⟨gb392,3,none⟩ = some (.int .i64 a0_3):=(kC BK392.out 3).trans rfl;have hfz48_0:=blk_frozen BK392.out 0;have hfz48_1:=blk_frozen BK392.out 1;have hfz48_2:=blk_frozen BK392.out 2;have hfz48_3:=blk_frozen BK392.out 3;have hcz49_0 : w47.cell? ⟨gb393,0,none⟩ = some (.int .i64 a1_0):=(kC BK393.out 0).trans rfl;have hcz49_1 : w47.cell? ⟨gb393,1,none⟩ = some (.int .i64 a1_1):=(kC BK393.out 1).trans rfl;have hcz49_2 : w47.cell? ⟨gb393,2,none⟩ = some (.int .i64 a1_2):=(kC BK393.out 2).trans rfl;have hcz49_3 : w47.cell? ⟨gb393,3,none⟩ = some (.int .i64 a1_3):=(kC BK393.out 3).trans rfl;have hfz49_0:=blk_frozen BK393.out 0;have hfz49_1:=blk_frozen BK393.out 1;have hfz49_2:=blk_frozen BK393.out 2;have hfz49_3:=blk_frozen BK393.out 3)|(go_at_call 62;(with_reducible refine (gazetteerref09_inside.calls a0_0 a0_1 a1_0 false _ A7.out).mono ?_);rintro e w' ⟨rfl,⟨nd,rfl⟩⟩))
    go_ret
    exact ⟨by first|rfl|(simp [errW_none,errW_some] <;> rfl)|(simp [*,errW_none,errW_some] <;> rfl),by repeat (first|(with_reducible first|exact HB.out|apply bA|apply bN|apply bD|refine bS ?_ GE392.out|refine bS ?_ GE393.out)|exact HB.out)⟩
  ·replace c6:=Bool.eq_false_iff.mpr c6
   subst c6
   have H1 : (some false) = some r:=by rw [if_neg (show ¬ (false = true) by decide)] at H;exact H
   clear H
   have H:=H1
   clear H1
   obtain rfl:=Option.some.inj H
   go_enter Try.func45,Try.ntmps45
   go_wp2_with (first|((with_reducible refine gate_dst (N:=2) rfl ?_);refine box_event ?hg (N:=2) ?hd (cs:=#[.int .i64 a0_0,.int .i64 a0_1,.int .i64 a0_2,.int .i64 a0_3]) (t:=35) ?hr ?_;(case hd => rfl);(case hg => rfl);(case hr => first|(go_simp;done)|(go_simp;rfl));intro gb392 hg w50 hbox hb;have n0_:=Kh HB hb;have n1_:=Ak (hbox);have n2_:=Ak ((by rw [hg];exact (below_size HB.out) : w.heap.size ≤ gb392));have n3_:=Ak ((by rw [hg];exact (below_size HB.out) : w.heap.size ≤ gb392));clear HB;have HB:=n0_;have BK392:=n1_;have GW392:=n2_;have GE392:=n3_;clear n0_ n1_ n2_ n3_;clear hb hbox hg)|((with_reducible refine gate_dst (N:=3) rfl ?_);refine box_event ?hg (N:=3) ?hd (cs:=#[.int .i64 a1_0,.int .i64 a1_1,.int .i64 a1_2,.int .i64 a1_3]) (t:=35) ?hr ?_;(case hd => rfl);(case hg => rfl);(case hr => first|(go_simp;done)|(go_simp;rfl));intro gb393 hg w51 hbox hb;have n0_:=Kb BK392 hb;have n1_:=Kh HB hb;have n2_:=Ak (hbox);have n3_:=Ak ((by rw [hg];exact (below_size HB.out) : w.heap.size ≤ gb393));have n4_:=Ak ((by rw [hg];exact (below_size HB.out) : w.heap.size ≤ gb393));have n5_:=Ak ((by rw [hg];exact Nat.ne_of_lt (blk_lt (g:=gb392) (o:=.cells #[.int .i64 a0_0,.int .i64 a0_1,.int .i64 a0_2,.int .i64 a0_3] 35 (0,0)) BK392.out) : gb392 ≠ gb393));have n6_:=Ak ((by rw [hg];exact Nat.ne_of_gt (blk_lt (g:=gb392) (o:=.cells #[.int .i64 a0_0,.int .i64 a0_1,.int .i64 a0_2,.int .i64 a0_3] 35 (0,0)) BK392.out) : gb393 ≠ gb392));clear BK392;clear HB;have BK392:=n0_;have HB:=n1_;have BK393:=n2_;have GW393:=n3_;have GE393:=n4_;have NB392_393:=n5_;have NB393_392:=n6_;clear n0_ n1_ n2_ n3_ n4_ n5_ n6_;clear hb hbox hg;have hnb52:=NB392_393.out;have hnc52:=NB393_392.out;have hcz53_0 : w51.cell? ⟨gb392,0,none⟩ = some (.int .i64 a0_0):=(kC BK392.out 0).trans rfl;have hcz53_1 : w51.cell? ⟨gb392,1,none⟩ = some (.int .i64 a0_1):=(kC BK392.out 1).trans rfl;have hcz53_2 : w51.cell? ⟨gb392,2,none⟩ = some (.int .i64 a0_2):=(kC BK392.out 2).trans rfl;have hcz53_3 : w51.cell? ⟨gb392,3,none⟩ = some (.int .i64 a0_3):=(kC BK392.out 3).trans rfl;have hfz53_0:=blk_frozen BK392.out 0;have hfz53_1:=blk_frozen BK392.out 1;have hfz53_2:=blk_frozen BK392.out 2;have hfz53_3:=blk_frozen BK392.out 3)|((with_reducible refine gate_callee (f:=59) rfl ?_);refine goesL_ (some 6) rfl rfl Try.func59 (by kernel_rfl) rfl #[.agg #[.int .i64 a0_0,.int .i64 a0_1,.int .i64 a0_2,.int .i64 a0_3]] rfl (by (try simp only [List.map_toArray,List.map_cons,List.map_nil]);first|done|rfl|(simp only [List.length_drop,List.length_take];rfl)) ?_;(with_reducible refine (gazetteerref09_Box.calls a0_0 a0_1 a0_2 a0_3 true _ A3.out).mono ?_);rintro e w54 ⟨rfl,hb⟩;refine ⟨_,rfl,?_⟩;have n0_:=Kb BK392 hb;have n1_:=Kb BK393 hb;have n2_:=Kh HB hb;clear BK392;clear BK393;clear HB;have BK392:=n0_;have BK393:=n1_;have HB:=n2_;clear n0_ n1_ n2_;(try clear hb);(try clear hb2);(try clear hk);(try clear hi);have hcz55_0 : w54.cell? ⟨gb393,0,none⟩ = some (.int .i64 a1_0):=(kC BK393.out 0).trans rfl;have hcz55_1 : w54.cell? ⟨gb393,1,none⟩ = some (.int .i64 a1_1):=(kC BK393.out 1).trans rfl;have hcz55_2 : w54.cell? ⟨gb393,2,none⟩ = some (.int .i64 a1_2):=(kC BK393.out 2).trans rfl;have hcz55_3 : w54.cell? ⟨gb393,3,none⟩ = some (.int .i64 a1_3):=(kC BK393.out 3).trans rfl;have hfz55_0:=blk_frozen BK393.out 0;have hfz55_1:=blk_frozen BK393.out 1;have hfz55_2:=blk_frozen BK393.out 2;have hfz55_3:=blk_frozen BK393.out 3)|(go_at_call 59;(with_reducible refine (gazetteerref09_Box.calls a1_0 a1_1 a1_2 a1_3 false _ A5.out).mono ?_);rintro e w56 ⟨rfl,hb⟩;have n0_:=Kb BK392 hb;have n1_:=Kb BK393 hb;have n2_:=Kh HB hb;clear BK392;clear BK393;clear HB;have BK392:=n0_;have BK393:=n1_;have HB:=n2_;clear n0_ n1_ n2_;(try clear hb);(try clear hb2);(try clear hk);(try clear hi)))
   go_ret
   exact ⟨by first|rfl|(simp [errW_none,errW_some] <;> rfl)|(simp [*,errW_none,errW_some] <;> rfl),by repeat (first|(with_reducible first|exact HB.out|apply bA|apply bN|apply bD|refine bS ?_ GE392.out|refine bS ?_ GE393.out)|exact HB.out)⟩
 ·replace c4:=Bool.eq_false_iff.mpr c4
  subst c4
  have H1 : (some false) = some r:=by rw [if_neg (show ¬ (false = true) by decide)] at H;exact H
  clear H
  have H:=H1
  clear H1
  obtain rfl:=Option.some.inj H
  go_enter Try.func45,Try.ntmps45
  go_wp2_with (first|((with_reducible refine gate_dst (N:=2) rfl ?_);refine box_event ?hg (N:=2) ?hd (cs:=#[.int .i64 a0_0,.int .i64 a0_1,.int .i64 a0_2,.int .i64 a0_3]) (t:=35) ?hr ?_;(case hd => rfl);(case hg => rfl);(case hr => first|(go_simp;done)|(go_simp;rfl));intro gb392 hg w57 hbox hb;have n0_:=Kh HB hb;have n1_:=Ak (hbox);have n2_:=Ak ((by rw [hg];exact (below_size HB.out) : w.heap.size ≤ gb392));have n3_:=Ak ((by rw [hg];exact (below_size HB.out) : w.heap.size ≤ gb392));clear HB;have HB:=n0_;have BK392:=n1_;have GW392:=n2_;have GE392:=n3_;clear n0_ n1_ n2_ n3_;clear hb hbox hg)|((with_reducible refine gate_dst (N:=3) rfl ?_);refine box_event ?hg (N:=3) ?hd (cs:=#[.int .i64 a1_0,.int .i64 a1_1,.int .i64 a1_2,.int .i64 a1_3]) (t:=35) ?hr ?_;(case hd => rfl);(case hg => rfl);(case hr => first|(go_simp;done)|(go_simp;rfl));intro gb393 hg w58 hbox hb;have n0_:=Kb BK392 hb;have n1_:=Kh HB hb;have n2_:=Ak (hbox);have n3_:=Ak ((by rw [hg];exact (below_size HB.out) : w.heap.size ≤ gb393));have n4_:=Ak ((by rw [hg];exact (below_size HB.out) : w.heap.size ≤ gb393));have n5_:=Ak ((by rw [hg];exact Nat.ne_of_lt (blk_lt (g:=gb392) (o:=.cells #[.int .i64 a0_0,.int .i64 a0_1,.int .i64 a0_2,.int .i64 a0_3] 35 (0,0)) BK392.out) : gb392 ≠ gb393));have n6_:=Ak ((by rw [hg];exact Nat.ne_of_gt (blk_lt (g:=gb392) (o:=.cells #[.int .i64 a0_0,.int .i64 a0_1,.int .i64 a0_2,.int .i64 a0_3] 35 (0,0)) BK392.out) : gb393 ≠ gb392));clear BK392;clear HB;have BK392:=n0_;have HB:=n1_;have BK393:=n2_;have GW393:=n3_;have GE393:=n4_;have NB392_393:=n5_;have NB393_392:=n6_;clear n0_ n1_ n2_ n3_ n4_ n5_ n6_;clear hb hbox hg;have hnb59:=NB392_393.out;have hnc59:=NB393_392.out;have hcz60_0 : w58.cell? ⟨gb392,0,none⟩ = some (.int .i64 a0_0):=(kC BK392.out 0).trans rfl;have hcz60_1 : w58.cell? ⟨gb392,1,none⟩ = some (.int .i64 a0_1):=(kC BK392.out 1).trans rfl;have hcz60_2 : w58.cell? ⟨gb392,2,none⟩ = some (.int .i64 a0_2):=(kC BK392.out 2).trans rfl;have hcz60_3 : w58.cell? ⟨gb392,3,none⟩ = some (.int .i64 a0_3):=(kC BK392.out 3).trans rfl;have hfz60_0:=blk_frozen BK392.out 0;have hfz60_1:=blk_frozen BK392.out 1;have hfz60_2:=blk_frozen BK392.out 2;have hfz60_3:=blk_frozen BK392.out 3)|((with_reducible refine gate_callee (f:=59) rfl ?_);refine goesL_ (some 6) rfl rfl Try.func59 (by kernel_rfl) rfl #[.agg #[.int .i64 a0_0,.int .i64 a0_1,.int .i64 a0_2,.int .i64 a0_3]] rfl (by (try simp only [List.map_toArray,List.map_cons,List.map_nil]);first|done|rfl|(simp only [List.length_drop,List.length_take];rfl)) ?_;(with_reducible refine (gazetteerref09_Box.calls a0_0 a0_1 a0_2 a0_3 false _ A3.out).mono ?_);rintro e w61 ⟨rfl,hb⟩;refine ⟨_,rfl,?_⟩;have n0_:=Kb BK392 hb;have n1_:=Kb BK393 hb;have n2_:=Kh HB hb;clear BK392;clear BK393;clear HB;have BK392:=n0_;have BK393:=n1_;have HB:=n2_;clear n0_ n1_ n2_;(try clear hb);(try clear hb2);(try clear hk);(try clear hi)))
  go_ret
  exact ⟨by first|rfl|(simp [errW_none,errW_some] <;> rfl)|(simp [*,errW_none,errW_some] <;> rfl),by repeat (first|(with_reducible first|exact HB.out|apply bA|apply bN|apply bD|refine bS ?_ GE392.out|refine bS ?_ GE393.out)|exact HB.out)⟩
end Go.Proofs.Ythlhmijgbjcloaa.A
end
section
namespace Go.Proofs.Ythlhmijgbjcloaa.A
open Go.RowKit Go.Proofs.YthlhmijgbjcloaaW.PrintWords Go.Proofs.YthlhmijgbjcloaaW.PrintLast Go.Proofs.YthlhmijgbjcloaaW.PrintMore
attribute [local go_sem] max2_int min2_int max_two min_two max_three min_three max_four min_four   -- for this text's walks alone
attribute [local go_sem high] eqA35
def gazetteerlaw09_KeyTells.j0 : Nat → Bool → Int → Int → Int → Int → Int → Int → Int → Int → Option (Bool)
  | 0, _, _, _, _, _, _, _, _, _ => none
  | k + 1, x28, x401000, x401001, x401002, x401003, x402000, x402001, x402002, x402003 => if x28 = true then (some false) else ((key_Meets.f x401000 x401001 x401002 x401003 x402000 x402001 x402002 x402003).bind fun t407 => ((gazetteerref09_Meets.f k x401000 x401001 x401002 x401003 x402000 x402001 x402002 x402003).bind fun t408 => (if (t407 == t408) = true then ((key_Covers.f x401000 x401001 x401002 x401003 x402000 x402001 x402002 x402003).bind fun t409 => ((gazetteerref09_Covers.f x401000 x401001 x401002 x401003 x402000 x402001 x402002 x402003).bind fun t410 => (if (t409 == t410) = true then ((key_Union.f x401000 x401001 x401002 x401003 x402000 x402001 x402002 x402003).bind fun bt411 => ((gazetteerref09_Union.f k x401000 x401001 x401002 x401003 x402000 x402001 x402002 x402003).bind fun bt415 => (some (bt411.1 == bt415.1 && (bt411.2.1 == bt415.2.1 && (bt411.2.2.1 == bt415.2.2.1 && (bt411.2.2.2 == bt415.2.2.2))))))) else (some false)))) else (some false))))
def gazetteerlaw09_KeyTells.f (k : Nat) (a0 : Int) (a1_0 : Int) (a1_1 : Int) (a1_2 : Int) (a1_3 : Int) (a2_0 : Int) (a2_1 : Int) (a2_2 : Int) (a2_3 : Int) : Option (Bool) := (gazetteerlaw09_wakes.f k).bind fun t402 => (if t402 = true then ((key_Check.f a0 a1_0 a1_1 a1_2 a1_3).bind fun t403 => ((gazetteerref09_Right.f a0 a1_0 a1_1 a1_2 a1_3).bind fun t404 => (if ((t403 == 0) != t404) = true then (gazetteerlaw09_KeyTells.j0 k true a1_0 a1_1 a1_2 a1_3 a2_0 a2_1 a2_2 a2_3) else ((key_Check.f a0 a1_0 a1_1 a1_2 a1_3).bind fun t405 => (if t405 = 0 then (gazetteerlaw09_KeyTells.j0 k false a1_0 a1_1 a1_2 a1_3 a2_0 a2_1 a2_2 a2_3) else ((key_Check.f a0 a1_0 a1_1 a1_2 a1_3).bind fun t406 => (gazetteerlaw09_KeyTells.j0 k (t406 != 2) a1_0 a1_1 a1_2 a1_3 a2_0 a2_1 a2_2 a2_3))))))) else (some false))
def gazetteerlaw09_KeyTells.T3 : Bool × List (List Nat × List Nat) := (true, [([], []), ([], []), ([0, 1], [0, 1]), ([2], [2]), ([], []), ([], []), ([4, 5, 2], [4, 5]), ([3, 6], [3, 6]), ([7, 6], [7]), ([8], [8]), ([8], [8]), ([9, 10, 8, 8], [8, 9, 10]), ([11, 8], [8, 11]), ([12, 11, 8], [8, 12]), ([13], [13]), ([13], [13]), ([14, 15, 13, 13], [13, 14, 15]), ([16, 13], [13, 16]), ([13, 17, 8], [8, 13, 17]), ([8, 18], [8, 18])])
def gazetteerlaw09_KeyTells.B3 : List Nat := [0, 0, 3, 7, 0, 0, 55, 127, 255, 511, 511, 2047, 4095, 8191, 16383, 16383, 65535, 131071, 262143, 524287]
theorem gazetteerlaw09_KeyTells.tab3 : rtab .any (opsOf Try.f14 3) = gazetteerlaw09_KeyTells.T3 := by kernel_rfl
theorem gazetteerlaw09_KeyTells.bits3 : waitsOk gazetteerlaw09_KeyTells.T3.2 gazetteerlaw09_KeyTells.B3 = true := by kernel_rfl
def gazetteerlaw09_KeyTells.T5 : Bool × List (List Nat × List Nat) := (true, [([], []), ([], []), ([0, 1], [0, 1]), ([], []), ([], []), ([3, 4, 2], [3, 4]), ([2, 5], [2, 5]), ([6, 5], [6]), ([7], [7]), ([7], [7]), ([8, 9, 7, 7], [7, 8, 9]), ([7], [7]), ([7], [7]), ([11, 12, 10, 7], [7, 11, 12]), ([10, 13, 7], [7, 10, 13]), ([7, 14], [7, 14]), ([15, 13], [15]), ([16], [16]), ([16], [16]), ([17, 18, 16, 16], [16, 17, 18]), ([16], [16]), ([16], [16]), ([20, 21, 19, 16], [16, 20, 21]), ([19, 22, 16], [16, 19, 22]), ([16, 23], [16, 23]), ([24, 22, 0, 1, 2, 3, 4, 5, 6, 7, 8, 9, 10, 11, 12, 13, 14, 15, 16, 17, 18, 19, 20, 21, 22, 23, 24], [24])])
def gazetteerlaw09_KeyTells.B5 : List Nat := [0, 0, 3, 0, 0, 31, 63, 127, 255, 255, 1023, 255, 255, 8191, 16383, 32767, 65535, 131071, 131071, 524287, 131071, 131071, 4194303, 8388607, 16777215, 33554431]
theorem gazetteerlaw09_KeyTells.tab5 : rtab .any (opsOf Try.f14 5) = gazetteerlaw09_KeyTells.T5 := by kernel_rfl
theorem gazetteerlaw09_KeyTells.bits5 : waitsOk gazetteerlaw09_KeyTells.T5.2 gazetteerlaw09_KeyTells.B5 = true := by kernel_rfl
set_option maxHeartbeats 8000000 in
set_option maxRecDepth 100000 in
theorem gazetteerlaw09_KeyTells.calls (k : Nat) (a0 : Int) (a1_0 : Int) (a1_1 : Int) (a1_2 : Int) (a1_3 : Int) (a2_0 : Int) (a2_1 : Int) (a2_2 : Int) (a2_3 : Int) (r : Bool) (w : World) (h : gazetteerlaw09_KeyTells.f k a0 a1_0 a1_1 a1_2 a1_3 a2_0 a2_1 a2_2 a2_3 = some r) :
  Calls Try.prog 14 #[.int .i64 a0,.agg #[.int .i64 a1_0,.int .i64 a1_1,.int .i64 a1_2,.int .i64 a1_3],.agg #[.int .i64 a2_0,.int .i64 a2_1,.int .i64 a2_2,.int .i64 a2_3]] w fun e w' => e = .returned (.bool r)∧Below w.heap.size w w':=by
 have hu35:=Try.underlying35
 have HB:=Ak (Below.refl w.heap.size w)
 have H : ((gazetteerlaw09_wakes.f k).bind fun t402 => (if t402 = true then ((key_Check.f a0 a1_0 a1_1 a1_2 a1_3).bind fun t403 => ((gazetteerref09_Right.f a0 a1_0 a1_1 a1_2 a1_3).bind fun t404 => (if ((t403 == 0) != t404) = true then (gazetteerlaw09_KeyTells.j0 k true a1_0 a1_1 a1_2 a1_3 a2_0 a2_1 a2_2 a2_3) else ((key_Check.f a0 a1_0 a1_1 a1_2 a1_3).bind fun t405 => (if t405 = 0 then (gazetteerlaw09_KeyTells.j0 k false a1_0 a1_1 a1_2 a1_3 a2_0 a2_1 a2_2 a2_3) else ((key_Check.f a0 a1_0 a1_1 a1_2 a1_3).bind fun t406 => (gazetteerlaw09_KeyTells.j0 k (t406 != 2) a1_0 a1_1 a1_2 a1_3 a2_0 a2_1 a2_2 a2_3))))))) else (some false))) = some r:=h
 clear h
 replace H:=Option.bind_eq_some_iff.mp H
 obtain ⟨t402,A40,H⟩:=H
 replace H : (if t402 = true then ((key_Check.f a0 a1_0 a1_1 a1_2 a1_3).bind fun t403 => ((gazetteerref09_Right.f a0 a1_0 a1_1 a1_2 a1_3).bind fun t404 => (if ((t403 == 0) != t404) = true then (gazetteerlaw09_KeyTells.j0 k true a1_0 a1_1 a1_2 a1_3 a2_0 a2_1 a2_2 a2_3) else ((key_Check.f a0 a1_0 a1_1 a1_2 a1_3).bind fun t405 => (if t405 = 0 then (gazetteerlaw09_KeyTells.j0 k false a1_0 a1_1 a1_2 a1_3 a2_0 a2_1 a2_2 a2_3) else ((key_Check.f a0 a1_0 a1_1 a1_2 a1_3).bind fun t406 => (gazetteerlaw09_KeyTells.j0 k (t406 != 2) a1_0 a1_1 a1_2 a1_3 a2_0 a2_1 a2_2 a2_3))))))) else (some false)) = some r:=H
 have A4:=Ak A40
 clear A40
 by_cases c5 : t402 = true
 ·subst c5
  have H1 : ((key_Check.f a0 a1_0 a1_1 a1_2 a1_3).bind fun t403 => ((gazetteerref09_Right.f a0 a1_0 a1_1 a1_2 a1_3).bind fun t404 => (if ((t403 == 0) != t404) = true then (gazetteerlaw09_KeyTells.j0 k true a1_0 a1_1 a1_2 a1_3 a2_0 a2_1 a2_2 a2_3) else ((key_Check.f a0 a1_0 a1_1 a1_2 a1_3).bind fun t405 => (if t405 = 0 then (gazetteerlaw09_KeyTells.j0 k false a1_0 a1_1 a1_2 a1_3 a2_0 a2_1 a2_2 a2_3) else ((key_Check.f a0 a1_0 a1_1 a1_2 a1_3).bind fun t406 => (gazetteerlaw09_KeyTells.j0 k (t406 != 2) a1_0 a1_1 a1_2 a1_3 a2_0 a2_1 a2_2 a2_3))))))) = some r:=by rw [if_pos rfl] at H;exact H
  clear H
  have H:=H1
  clear H1
  have HC6:=Ak H
  clear H
  go_enter Try.func14,Try.ntmps14
  go_upto_region 3 with (first|((with_reducible refine gate_dst (N:=4) rfl ?_);refine box_event ?hg (N:=4) ?hd (cs:=#[.int .i64 a1_0,.int .i64 a1_1,.int .i64 a1_2,.int .i64 a1_3]) (t:=35) ?hr ?_;(case hd => rfl);(case hg => rfl);(case hr => first|(go_simp;done)|(go_simp;rfl));intro gb400 hg w7 hbox hb;have n0_:=Kh HB hb;have n1_:=Ak (hbox);have n2_:=Ak ((by rw [hg];exact (below_size HB.out) : w.heap.size ≤ gb400));have n3_:=Ak ((by rw [hg];exact (below_size HB.out) : w.heap.size ≤ gb400));clear HB;have HB:=n0_;have BK400:=n1_;have GW400:=n2_;have GE400:=n3_;clear n0_ n1_ n2_ n3_;clear hb hbox hg)|((with_reducible refine gate_dst (N:=5) rfl ?_);refine box_event ?hg (N:=5) ?hd (cs:=#[.int .i64 a2_0,.int .i64 a2_1,.int .i64 a2_2,.int .i64 a2_3]) (t:=35) ?hr ?_;(case hd => rfl);(case hg => rfl);(case hr => first|(go_simp;done)|(go_simp;rfl));intro gb401 hg w8 hbox hb;have n0_:=Kb BK400 hb;have n1_:=Kh HB hb;have n2_:=Ak (hbox);have n3_:=Ak ((by rw [hg];exact (below_size HB.out) : w.heap.size ≤ gb401));have n4_:=Ak ((by rw [hg];exact (below_size HB.out) : w.heap.size ≤ gb401));have n5_:=Ak ((by rw [hg];exact Nat.ne_of_lt (blk_lt (g:=gb400) (o:=.cells #[.int .i64 a1_0,.int .i64 a1_1,.int .i64 a1_2,.int .i64 a1_3] 35 (0,0)) BK400.out) : gb400 ≠ gb401));have n6_:=Ak ((by rw [hg];exact Nat.ne_of_gt (blk_lt (g:=gb400) (o:=.cells #[.int .i64 a1_0,.int .i64 a1_1,.int .i64 a1_2,.int .i64 a1_3] 35 (0,0)) BK400.out) : gb401 ≠ gb400));clear BK400;clear HB;have BK400:=n0_;have HB:=n1_;have BK401:=n2_;have GW401:=n3_;have GE401:=n4_;have NB400_401:=n5_;have NB401_400:=n6_;clear n0_ n1_ n2_ n3_ n4_ n5_ n6_;clear hb hbox hg)|((with_reducible refine gate_callee (f:=32) rfl ?_);refine goesL_ (some 7) rfl rfl Try.func32 (by kernel_rfl) rfl #[] rfl (by (try simp only [List.map_toArray,List.map_cons,List.map_nil]);first|done|rfl|(simp only [List.length_drop,List.length_take];rfl)) ?_;(with_reducible refine (gazetteerlaw09_wakes.calls k  true _ A4.out).mono ?_);rintro e w9 ⟨rfl,hb⟩;refine ⟨_,rfl,?_⟩;have n0_:=Kb BK400 hb;have n1_:=Kb BK401 hb;have n2_:=Kh HB hb;clear BK400;clear BK401;clear HB;have BK400:=n0_;have BK401:=n1_;have HB:=n2_;clear n0_ n1_ n2_;(try clear hb);(try clear hb2);(try clear hk);(try clear hi)))
  (try simp only [Act.put,sA,sZ,sS])
  go_cut [28] (fun v28 wc => ∃ (kq : Nat) (x28_5 : Bool),v28 = .bool x28_5∧Aside0 (gazetteerlaw09_KeyTells.j0 kq x28_5 a1_0 a1_1 a1_2 a1_3 a2_0 a2_1 a2_2 a2_3 = some r)∧Aside0 (kq ≤ k)∧Aside0 (wc.heap[gb400]? = some (.cells #[.int .i64 a1_0,.int .i64 a1_1,.int .i64 a1_2,.int .i64 a1_3] 35 (0,0)))∧Aside0 (wc.heap[gb401]? = some (.cells #[.int .i64 a2_0,.int .i64 a2_1,.int .i64 a2_2,.int .i64 a2_3] 35 (0,0)))∧Aside0 (Below w.heap.size w wc))
  case first =>
   have H:=HC6.out
   clear HC6
   replace H:=Option.bind_eq_some_iff.mp H
   obtain ⟨t403,A100,H⟩:=H
   replace H : ((gazetteerref09_Right.f a0 a1_0 a1_1 a1_2 a1_3).bind fun t404 => (if ((t403 == 0) != t404) = true then (gazetteerlaw09_KeyTells.j0 k true a1_0 a1_1 a1_2 a1_3 a2_0 a2_1 a2_2 a2_3) else ((key_Check.f a0 a1_0 a1_1 a1_2 a1_3).bind fun t405 => (if t405 = 0 then (gazetteerlaw09_KeyTells.j0 k false a1_0 a1_1 a1_2 a1_3 a2_0 a2_1 a2_2 a2_3) else ((key_Check.f a0 a1_0 a1_1 a1_2 a1_3).bind fun t406 => (gazetteerlaw09_KeyTells.j0 k (t406 != 2) a1_0 a1_1 a1_2 a1_3 a2_0 a2_1 a2_2 a2_3)))))) = some r:=H
   have A10:=Ak A100
   clear A100
   replace H:=Option.bind_eq_some_iff.mp H
   obtain ⟨t404,A110,H⟩:=H
   replace H : (if ((t403 == 0) != t404) = true then (gazetteerlaw09_KeyTells.j0 k true a1_0 a1_1 a1_2 a1_3 a2_0 a2_1 a2_2 a2_3) else ((key_Check.f a0 a1_0 a1_1 a1_2 a1_3).bind fun t405 => (if t405 = 0 then (gazetteerlaw09_KeyTells.j0 k false a1_0 a1_1 a1_2 a1_3 a2_0 a2_1 a2_2 a2_3) else ((key_Check.f a0 a1_0 a1_1 a1_2 a1_3).bind fun t406 => (gazetteerlaw09_KeyTells.j0 k (t406 != 2) a1_0 a1_1 a1_2 a1_3 a2_0 a2_1 a2_2 a2_3))))) = some r:=H
   have A11:=Ak A110
   clear A110
   by_cases c12 : ((t403 == 0) != t404) = true
   ·rw [if_pos c12] at H
    have c12b0 : ((t403 == 0) != t404) = true:=c12
    (try (have c12b1 : decide ((t403 == 0) = t404) = false:=by simpa using c12))
    (try (have c12b2 : ((t403 == 0) == t404) = false:=by simpa using c12))
    (try (have c12b3 : ¬ ((t403 == 0) = t404):=by simpa using c12))
    clear c12
    (first|rw [c12b0]|(simp only [i64_w,i32_w];rw [c12b0])|skip)
    have H':=Ak H
    clear H
    try go_wp2
    have n0_:=Ak (kD BK400.out)
    have n1_:=Ak (kD BK401.out)
    have n2_:=Ak (bD HB.out)
    clear BK400 BK401 HB
    have BK400:=n0_;have BK401:=n1_;have HB:=n2_
    clear n0_ n1_ n2_
    refine start_ (n:=20) (S:=fun w' => w'.cell? ⟨gb400,0,none⟩ = some (.int .i64 a1_0)∧w'.cell? ⟨gb400,1,none⟩ = some (.int .i64 a1_1)∧w'.cell? ⟨gb400,2,none⟩ = some (.int .i64 a1_2)∧w'.cell? ⟨gb400,3,none⟩ = some (.int .i64 a1_3)) (ds:=[]) #[ff,ff,ff,ff,ff,ff,ff,ff,ff,ff,ff,ff,ff,ff,ff,ff,ff,ff,ff,ff] (by kernel_rfl) rfl rfl ⟨(kC BK400.out 0).trans rfl,(kC BK400.out 1).trans rfl,(kC BK400.out 2).trans rfl,(kC BK400.out 3).trans rfl⟩ (fun hHeld => ?_);refine with_tabW gazetteerlaw09_KeyTells.tab3 gazetteerlaw09_KeyTells.bits3 (fun HT_ HW_ => ?_)
    generalize w9.drew = w13 at BK400 BK401 HB hHeld ⊢
    refine pure_ (i:=0) (N:=some 9) (v:=?_) (a':=?_) #[tt,ff,ff,ff,ff,ff,ff,ff,ff,ff,ff,ff,ff,ff,ff,ff,ff,ff,ff,ff] rfl rfl (any_of HT_.out (by kernel_rfl)) (fun _ _ _ h => h) (Or.inl ⟨by rfl,?_⟩) ?_ ?_
    rotate_left
    ·intro w'
     go_simp
     with_reducible rfl
    rotate_left
    ·simp only [Act.put,sA,sZ,sS,i64_w,i32_w]
     rfl
    refine pure_ (i:=4) (N:=some 13) (v:=?_) (a':=?_) #[tt,ff,ff,ff,tt,ff,ff,ff,ff,ff,ff,ff,ff,ff,ff,ff,ff,ff,ff,ff] rfl rfl (any_of HT_.out (by kernel_rfl)) (fun _ _ _ h => h) (Or.inl ⟨by rfl,?_⟩) ?_ ?_
    rotate_left
    ·intro w'
     go_simp
     with_reducible rfl
    rotate_left
    ·simp only [Act.put,sA,sZ,sS,i64_w,i32_w]
     rfl
    refine take_ (i:=1) (N:=some 10) (v:=?_) (a':=?_) #[tt,tt,ff,ff,tt,ff,ff,ff,ff,ff,ff,ff,ff,ff,ff,ff,ff,ff,ff,ff] rfl rfl (take_ofW HT_.out HW_.out (by kernel_rfl)) (fun _ _ _ h => h) (Or.inl ⟨by rfl,?_⟩) hHeld ?_ ?_
    rotate_left
    ·rintro w' ⟨s0,s1,s2,s3⟩
     go_simp
     with_reducible rfl
    rotate_left
    ·simp only [Act.put,sA,sZ,sS,i64_w,i32_w]
     rfl
    refine take_ (i:=5) (N:=some 14) (v:=?_) (a':=?_) #[tt,tt,ff,ff,tt,tt,ff,ff,ff,ff,ff,ff,ff,ff,ff,ff,ff,ff,ff,ff] rfl rfl (take_ofW HT_.out HW_.out (by kernel_rfl)) (fun _ _ _ h => h) (Or.inl ⟨by rfl,?_⟩) hHeld ?_ ?_
    rotate_left
    ·rintro w' ⟨s0,s1,s2,s3⟩
     go_simp
     with_reducible rfl
    rotate_left
    ·simp only [Act.put,sA,sZ,sS,i64_w,i32_w]
     rfl
    refine one_ (i:=2) (N:=some 11) #[tt,tt,tt,ff,tt,tt,ff,ff,ff,ff,ff,ff,ff,ff,ff,ff,ff,ff,ff,ff] rfl rfl (one_of HT_.out (by kernel_rfl)) (by decide) (fun K hK => ?_)
    refine goes_ Try.func42 (by kernel_rfl) rfl #[.int .i64 a0,.agg #[.int .i64 a1_0,.int .i64 a1_1,.int .i64 a1_2,.int .i64 a1_3]] (by rfl) rfl rfl (by (try simp only [List.map_toArray,List.map_cons,List.map_nil]);first|done|rfl|(simp only [List.length_drop,List.length_take];rfl)) ?_
    with_reducible refine (key_Check.calls a0 a1_0 a1_1 a1_2 a1_3 t403 _ A10.out).mono ?_
    rintro e w14 ⟨rfl,hb⟩
    refine ⟨_,rfl,?_⟩
    have n0_:=Kb BK400 hb
    have n1_:=Kb BK401 hb
    have n2_:=Kh HB hb
    clear BK400 BK401 HB
    have BK400:=n0_;have BK401:=n1_;have HB:=n2_
    clear n0_ n1_ n2_
    (try clear hb)
    (try clear hb2)
    (try clear hk)
    (try clear hi)
    refine hK.out _ _ ⟨(kC BK400.out 0).trans rfl,(kC BK400.out 1).trans rfl,(kC BK400.out 2).trans rfl,(kC BK400.out 3).trans rfl⟩ (fun hHeld => ?_)
    clear hK K
    refine norm_ (a':=?_) ?_ ?_
    rotate_left
    ·show Act.put _ (some 11) _ = _
     simp only [Act.put,sA,sZ,sS,i64_w,i32_w]
     rfl
    refine pure_ (i:=3) (N:=some 12) (v:=?_) (a':=?_) #[tt,tt,tt,tt,tt,tt,ff,ff,ff,ff,ff,ff,ff,ff,ff,ff,ff,ff,ff,ff] rfl rfl (any_of HT_.out (by kernel_rfl)) (fun _ _ _ h => h) (Or.inl ⟨by rfl,?_⟩) ?_ ?_
    rotate_left
    ·intro w'
     go_simp
     with_reducible rfl
    rotate_left
    ·simp only [Act.put,sA,sZ,sS,i64_w,i32_w]
     rfl
    refine one_ (i:=6) (N:=some 15) #[tt,tt,tt,tt,tt,tt,tt,ff,ff,ff,ff,ff,ff,ff,ff,ff,ff,ff,ff,ff] rfl rfl (one_of HT_.out (by kernel_rfl)) (by decide) (fun K hK => ?_)
    refine goes_ Try.func43 (by kernel_rfl) rfl #[.int .i64 a0,.agg #[.int .i64 a1_0,.int .i64 a1_1,.int .i64 a1_2,.int .i64 a1_3]] (by rfl) rfl rfl (by (try simp only [List.map_toArray,List.map_cons,List.map_nil]);first|done|rfl|(simp only [List.length_drop,List.length_take];rfl)) ?_
    with_reducible refine (gazetteerref09_Right.calls a0 a1_0 a1_1 a1_2 a1_3 t404 _ A11.out).mono ?_
    rintro e w15 ⟨rfl,hb⟩
    refine ⟨_,rfl,?_⟩
    have n0_:=Kb BK400 hb
    have n1_:=Kb BK401 hb
    have n2_:=Kh HB hb
    clear BK400 BK401 HB
    have BK400:=n0_;have BK401:=n1_;have HB:=n2_
    clear n0_ n1_ n2_
    (try clear hb)
    (try clear hb2)
    (try clear hk)
    (try clear hi)
    refine hK.out _ _ ⟨(kC BK400.out 0).trans rfl,(kC BK400.out 1).trans rfl,(kC BK400.out 2).trans rfl,(kC BK400.out 3).trans rfl⟩ (fun hHeld => ?_)
    clear hK K
    refine norm_ (a':=?_) ?_ ?_
    rotate_left
    ·show Act.put _ (some 15) _ = _
     simp only [Act.put,sA,sZ,sS,i64_w,i32_w]
     rfl
    refine pure_ (i:=7) (N:=some 16) (v:=?_) (a':=?_) #[tt,tt,tt,tt,tt,tt,tt,tt,ff,ff,ff,ff,ff,ff,ff,ff,ff,ff,ff,ff] rfl rfl (any_of HT_.out (by kernel_rfl)) (fun _ _ _ h => h) (Or.inl ⟨by rfl,?_⟩) ?_ ?_
    rotate_left
    ·intro w'
     go_simp
     with_reducible rfl
    rotate_left
    ·simp only [Act.put,sA,sZ,sS,i64_w,i32_w]
     rfl
    refine pure_ (i:=8) (N:=some 17) (v:=?_) (a':=?_) #[tt,tt,tt,tt,tt,tt,tt,tt,tt,ff,ff,ff,ff,ff,ff,ff,ff,ff,ff,ff] rfl rfl (any_of HT_.out (by kernel_rfl)) (fun _ _ _ h => h) (Or.inl ⟨by rfl,?_⟩) ?_ ?_
    rotate_left
    ·intro w'
     go_simp
     with_reducible rfl
    rotate_left
    ·simp only [Act.put,sA,sZ,sS,i64_w,i32_w]
     rfl
    refine pure_ (i:=9) (N:=some 18) (v:=undef) (a':=?_) #[tt,tt,tt,tt,tt,tt,tt,tt,tt,tt,ff,ff,ff,ff,ff,ff,ff,ff,ff,ff] rfl rfl (any_of HT_.out (by kernel_rfl)) (fun _ _ _ h => h) (Or.inr ⟨by rfl,rfl⟩) ?_ ?_
    rotate_left
    ·simp only [Act.put,sA,sZ,sS,i64_w,i32_w]
     rfl
    refine pure_ (i:=10) (N:=some 19) (v:=undef) (a':=?_) #[tt,tt,tt,tt,tt,tt,tt,tt,tt,tt,tt,ff,ff,ff,ff,ff,ff,ff,ff,ff] rfl rfl (any_of HT_.out (by kernel_rfl)) (fun _ _ _ h => h) (Or.inr ⟨by rfl,rfl⟩) ?_ ?_
    rotate_left
    ·simp only [Act.put,sA,sZ,sS,i64_w,i32_w]
     rfl
    refine pure_ (i:=11) (N:=some 20) (v:=undef) (a':=?_) #[tt,tt,tt,tt,tt,tt,tt,tt,tt,tt,tt,tt,ff,ff,ff,ff,ff,ff,ff,ff] rfl rfl (any_of HT_.out (by kernel_rfl)) (fun _ _ _ h => h) (Or.inr ⟨by rfl,rfl⟩) ?_ ?_
    rotate_left
    ·simp only [Act.put,sA,sZ,sS,i64_w,i32_w]
     rfl
    refine pure_ (i:=12) (N:=some 21) (v:=undef) (a':=?_) #[tt,tt,tt,tt,tt,tt,tt,tt,tt,tt,tt,tt,tt,ff,ff,ff,ff,ff,ff,ff] rfl rfl (any_of HT_.out (by kernel_rfl)) (fun _ _ _ h => h) (Or.inr ⟨by rfl,rfl⟩) ?_ ?_
    rotate_left
    ·simp only [Act.put,sA,sZ,sS,i64_w,i32_w]
     rfl
    refine pure_ (i:=13) (N:=some 22) (v:=undef) (a':=?_) #[tt,tt,tt,tt,tt,tt,tt,tt,tt,tt,tt,tt,tt,tt,ff,ff,ff,ff,ff,ff] rfl rfl (any_of HT_.out (by kernel_rfl)) (fun _ _ _ h => h) (Or.inr ⟨by rfl,rfl⟩) ?_ ?_
    rotate_left
    ·simp only [Act.put,sA,sZ,sS,i64_w,i32_w]
     rfl
    refine pure_ (i:=14) (N:=some 23) (v:=undef) (a':=?_) #[tt,tt,tt,tt,tt,tt,tt,tt,tt,tt,tt,tt,tt,tt,tt,ff,ff,ff,ff,ff] rfl rfl (any_of HT_.out (by kernel_rfl)) (fun _ _ _ h => h) (Or.inr ⟨by rfl,rfl⟩) ?_ ?_
    rotate_left
    ·simp only [Act.put,sA,sZ,sS,i64_w,i32_w]
     rfl
    refine pure_ (i:=15) (N:=some 24) (v:=undef) (a':=?_) #[tt,tt,tt,tt,tt,tt,tt,tt,tt,tt,tt,tt,tt,tt,tt,tt,ff,ff,ff,ff] rfl rfl (any_of HT_.out (by kernel_rfl)) (fun _ _ _ h => h) (Or.inr ⟨by rfl,rfl⟩) ?_ ?_
    rotate_left
    ·simp only [Act.put,sA,sZ,sS,i64_w,i32_w]
     rfl
    refine pure_ (i:=16) (N:=some 25) (v:=undef) (a':=?_) #[tt,tt,tt,tt,tt,tt,tt,tt,tt,tt,tt,tt,tt,tt,tt,tt,tt,ff,ff,ff] rfl rfl (any_of HT_.out (by kernel_rfl)) (fun _ _ _ h => h) (Or.inr ⟨by rfl,rfl⟩) ?_ ?_
    rotate_left
    ·simp only [Act.put,sA,sZ,sS,i64_w,i32_w]
     rfl
    refine pure_ (i:=17) (N:=some 26) (v:=undef) (a':=?_) #[tt,tt,tt,tt,tt,tt,tt,tt,tt,tt,tt,tt,tt,tt,tt,tt,tt,tt,ff,ff] rfl rfl (any_of HT_.out (by kernel_rfl)) (fun _ _ _ h => h) (Or.inr ⟨by rfl,rfl⟩) ?_ ?_
    rotate_left
    ·simp only [Act.put,sA,sZ,sS,i64_w,i32_w]
     rfl
    refine pure_ (i:=18) (N:=some 27) (v:=undef) (a':=?_) #[tt,tt,tt,tt,tt,tt,tt,tt,tt,tt,tt,tt,tt,tt,tt,tt,tt,tt,tt,ff] rfl rfl (any_of HT_.out (by kernel_rfl)) (fun _ _ _ h => h) (Or.inr ⟨by rfl,rfl⟩) ?_ ?_
    rotate_left
    ·simp only [Act.put,sA,sZ,sS,i64_w,i32_w]
     rfl
    refine pure_ (i:=19) (N:=some 28) (v:=?_) (a':=?_) #[tt,tt,tt,tt,tt,tt,tt,tt,tt,tt,tt,tt,tt,tt,tt,tt,tt,tt,tt,tt] rfl rfl (any_of HT_.out (by kernel_rfl)) (fun _ _ _ h => h) (Or.inl ⟨by rfl,?_⟩) ?_ ?_
    rotate_left
    ·intro w'
     go_simp
     with_reducible rfl
    rotate_left
    ·simp only [Act.put,sA,sZ,sS,i64_w,i32_w]
     rfl
    refine done_ (done_of HT_.out (by kernel_rfl)) ?_
    try go_wp2
    go_meet
    case rel => exact ⟨_,(true),(by first|rfl|(simp;done)|(simp [*];done)),H',⟨by first|omega|exact Nat.le_refl _⟩,⟨by (with_reducible repeat (first|refine kN ?_ _|refine kD ?_|refine kA ?_ _));exact BK400.out⟩,⟨by (with_reducible repeat (first|refine kN ?_ _|refine kD ?_|refine kA ?_ _));exact BK401.out⟩,⟨by repeat (first|(with_reducible first|exact HB.out|apply bA|apply bN|apply bD|refine bS ?_ GE400.out|refine bS ?_ GE401.out)|exact HB.out)⟩⟩
   ·rw [if_neg c12] at H
    have c12b0 : ((t403 == 0) != t404) = false:=by simpa using c12
    (try (have c12b1 : decide ((t403 == 0) = t404) = true:=by simpa using c12))
    (try (have c12b2 : ((t403 == 0) == t404) = true:=by simpa using c12))
    clear c12
    (first|rw [c12b0]|(simp only [i64_w,i32_w];rw [c12b0])|skip)
    replace H:=Option.bind_eq_some_iff.mp H
    obtain ⟨t405,A160,H⟩:=H
    replace H : (if t405 = 0 then (gazetteerlaw09_KeyTells.j0 k false a1_0 a1_1 a1_2 a1_3 a2_0 a2_1 a2_2 a2_3) else ((key_Check.f a0 a1_0 a1_1 a1_2 a1_3).bind fun t406 => (gazetteerlaw09_KeyTells.j0 k (t406 != 2) a1_0 a1_1 a1_2 a1_3 a2_0 a2_1 a2_2 a2_3))) = some r:=H
    have A16:=Ak A160
    clear A160
    by_cases c17 : t405 = 0
    ·rw [if_pos c17] at H
     have c17b0 : (t405 == 0) = true:=beq_iff_eq.mpr c17
     have c17b1 : (t405 != 0) = false:=bne_eq_false_iff_eq.mpr c17
     clear c17
     have H':=Ak H
     clear H
     try go_wp2
     have n0_:=Ak (kD BK400.out)
     have n1_:=Ak (kD BK401.out)
     have n2_:=Ak (bD HB.out)
     clear BK400 BK401 HB
     have BK400:=n0_;have BK401:=n1_;have HB:=n2_
     clear n0_ n1_ n2_
     refine start_ (n:=20) (S:=fun w' => w'.cell? ⟨gb400,0,none⟩ = some (.int .i64 a1_0)∧w'.cell? ⟨gb400,1,none⟩ = some (.int .i64 a1_1)∧w'.cell? ⟨gb400,2,none⟩ = some (.int .i64 a1_2)∧w'.cell? ⟨gb400,3,none⟩ = some (.int .i64 a1_3)) (ds:=[]) #[ff,ff,ff,ff,ff,ff,ff,ff,ff,ff,ff,ff,ff,ff,ff,ff,ff,ff,ff,ff] (by kernel_rfl) rfl rfl ⟨(kC BK400.out 0).trans rfl,(kC BK400.out 1).trans rfl,(kC BK400.out 2).trans rfl,(kC BK400.out 3).trans rfl⟩ (fun hHeld => ?_);refine with_tabW gazetteerlaw09_KeyTells.tab3 gazetteerlaw09_KeyTells.bits3 (fun HT_ HW_ => ?_)
     generalize w9.drew = w18 at BK400 BK401 HB hHeld ⊢
     refine pure_ (i:=0) (N:=some 9) (v:=?_) (a':=?_) #[tt,ff,ff,ff,ff,ff,ff,ff,ff,ff,ff,ff,ff,ff,ff,ff,ff,ff,ff,ff] rfl rfl (any_of HT_.out (by kernel_rfl)) (fun _ _ _ h => h) (Or.inl ⟨by rfl,?_⟩) ?_ ?_
     rotate_left
     ·intro w'
      go_simp
      with_reducible rfl
     rotate_left
     ·simp only [Act.put,sA,sZ,sS,i64_w,i32_w]
      rfl
     refine pure_ (i:=4) (N:=some 13) (v:=?_) (a':=?_) #[tt,ff,ff,ff,tt,ff,ff,ff,ff,ff,ff,ff,ff,ff,ff,ff,ff,ff,ff,ff] rfl rfl (any_of HT_.out (by kernel_rfl)) (fun _ _ _ h => h) (Or.inl ⟨by rfl,?_⟩) ?_ ?_
     rotate_left
     ·intro w'
      go_simp
      with_reducible rfl
     rotate_left
     ·simp only [Act.put,sA,sZ,sS,i64_w,i32_w]
      rfl
     refine take_ (i:=1) (N:=some 10) (v:=?_) (a':=?_) #[tt,tt,ff,ff,tt,ff,ff,ff,ff,ff,ff,ff,ff,ff,ff,ff,ff,ff,ff,ff] rfl rfl (take_ofW HT_.out HW_.out (by kernel_rfl)) (fun _ _ _ h => h) (Or.inl ⟨by rfl,?_⟩) hHeld ?_ ?_
     rotate_left
     ·rintro w' ⟨s0,s1,s2,s3⟩
      go_simp
      with_reducible rfl
     rotate_left
     ·simp only [Act.put,sA,sZ,sS,i64_w,i32_w]
      rfl
     refine take_ (i:=5) (N:=some 14) (v:=?_) (a':=?_) #[tt,tt,ff,ff,tt,tt,ff,ff,ff,ff,ff,ff,ff,ff,ff,ff,ff,ff,ff,ff] rfl rfl (take_ofW HT_.out HW_.out (by kernel_rfl)) (fun _ _ _ h => h) (Or.inl ⟨by rfl,?_⟩) hHeld ?_ ?_
     rotate_left
     ·rintro w' ⟨s0,s1,s2,s3⟩
      go_simp
      with_reducible rfl
     rotate_left
     ·simp only [Act.put,sA,sZ,sS,i64_w,i32_w]
      rfl
     refine one_ (i:=2) (N:=some 11) #[tt,tt,tt,ff,tt,tt,ff,ff,ff,ff,ff,ff,ff,ff,ff,ff,ff,ff,ff,ff] rfl rfl (one_of HT_.out (by kernel_rfl)) (by decide) (fun K hK => ?_)
     refine goes_ Try.func42 (by kernel_rfl) rfl #[.int .i64 a0,.agg #[.int .i64 a1_0,.int .i64 a1_1,.int .i64 a1_2,.int .i64 a1_3]] (by rfl) rfl rfl (by (try simp only [List.map_toArray,List.map_cons,List.map_nil]);first|done|rfl|(simp only [List.length_drop,List.length_take];rfl)) ?_
     with_reducible refine (key_Check.calls a0 a1_0 a1_1 a1_2 a1_3 t403 _ A10.out).mono ?_
     rintro e w19 ⟨rfl,hb⟩
     refine ⟨_,rfl,?_⟩
     have n0_:=Kb BK400 hb
     have n1_:=Kb BK401 hb
     have n2_:=Kh HB hb
     clear BK400 BK401 HB
     have BK400:=n0_;have BK401:=n1_;have HB:=n2_
     clear n0_ n1_ n2_
     (try clear hb)
     (try clear hb2)
     (try clear hk)
     (try clear hi)
     refine hK.out _ _ ⟨(kC BK400.out 0).trans rfl,(kC BK400.out 1).trans rfl,(kC BK400.out 2).trans rfl,(kC BK400.out 3).trans rfl⟩ (fun hHeld => ?_)
     clear hK K
     refine norm_ (a':=?_) ?_ ?_
     rotate_left
     ·show Act.put _ (some 11) _ = _
      simp only [Act.put,sA,sZ,sS,i64_w,i32_w]
      rfl
     refine pure_ (i:=3) (N:=some 12) (v:=?_) (a':=?_) #[tt,tt,tt,tt,tt,tt,ff,ff,ff,ff,ff,ff,ff,ff,ff,ff,ff,ff,ff,ff] rfl rfl (any_of HT_.out (by kernel_rfl)) (fun _ _ _ h => h) (Or.inl ⟨by rfl,?_⟩) ?_ ?_
     rotate_left
     ·intro w'
      go_simp
      with_reducible rfl
     rotate_left
     ·simp only [Act.put,sA,sZ,sS,i64_w,i32_w]
      rfl
     refine one_ (i:=6) (N:=some 15) #[tt,tt,tt,tt,tt,tt,tt,ff,ff,ff,ff,ff,ff,ff,ff,ff,ff,ff,ff,ff] rfl rfl (one_of HT_.out (by kernel_rfl)) (by decide) (fun K hK => ?_)
     refine goes_ Try.func43 (by kernel_rfl) rfl #[.int .i64 a0,.agg #[.int .i64 a1_0,.int .i64 a1_1,.int .i64 a1_2,.int .i64 a1_3]] (by rfl) rfl rfl (by (try simp only [List.map_toArray,List.map_cons,List.map_nil]);first|done|rfl|(simp only [List.length_drop,List.length_take];rfl)) ?_
     with_reducible refine (gazetteerref09_Right.calls a0 a1_0 a1_1 a1_2 a1_3 t404 _ A11.out).mono ?_
     rintro e w20 ⟨rfl,hb⟩
     refine ⟨_,rfl,?_⟩
     have n0_:=Kb BK400 hb
     have n1_:=Kb BK401 hb
     have n2_:=Kh HB hb
     clear BK400 BK401 HB
     have BK400:=n0_;have BK401:=n1_;have HB:=n2_
     clear n0_ n1_ n2_
     (try clear hb)
     (try clear hb2)
     (try clear hk)
     (try clear hi)
     refine hK.out _ _ ⟨(kC BK400.out 0).trans rfl,(kC BK400.out 1).trans rfl,(kC BK400.out 2).trans rfl,(kC BK400.out 3).trans rfl⟩ (fun hHeld => ?_)
     clear hK K
     refine norm_ (a':=?_) ?_ ?_
     rotate_left
     ·show Act.put _ (some 15) _ = _
      simp only [Act.put,sA,sZ,sS,i64_w,i32_w]
      rfl
     refine pure_ (i:=7) (N:=some 16) (v:=?_) (a':=?_) #[tt,tt,tt,tt,tt,tt,tt,tt,ff,ff,ff,ff,ff,ff,ff,ff,ff,ff,ff,ff] rfl rfl (any_of HT_.out (by kernel_rfl)) (fun _ _ _ h => h) (Or.inl ⟨by rfl,?_⟩) ?_ ?_
     rotate_left
     ·intro w'
      go_simp
      with_reducible rfl
     rotate_left
     ·simp only [Act.put,sA,sZ,sS,i64_w,i32_w]
      rfl
     refine pure_ (i:=8) (N:=some 17) (v:=?_) (a':=?_) #[tt,tt,tt,tt,tt,tt,tt,tt,tt,ff,ff,ff,ff,ff,ff,ff,ff,ff,ff,ff] rfl rfl (any_of HT_.out (by kernel_rfl)) (fun _ _ _ h => h) (Or.inl ⟨by rfl,?_⟩) ?_ ?_
     rotate_left
     ·intro w'
      go_simp
      with_reducible rfl
     rotate_left
     ·simp only [Act.put,sA,sZ,sS,i64_w,i32_w]
      rfl
     refine pure_ (i:=9) (N:=some 18) (v:=?_) (a':=?_) #[tt,tt,tt,tt,tt,tt,tt,tt,tt,tt,ff,ff,ff,ff,ff,ff,ff,ff,ff,ff] rfl rfl (any_of HT_.out (by kernel_rfl)) (fun _ _ _ h => h) (Or.inl ⟨by rfl,?_⟩) ?_ ?_
     rotate_left
     ·intro w'
      go_simp
      with_reducible rfl
     rotate_left
     ·simp only [Act.put,sA,sZ,sS,i64_w,i32_w]
      rfl
     refine take_ (i:=10) (N:=some 19) (v:=?_) (a':=?_) #[tt,tt,tt,tt,tt,tt,tt,tt,tt,tt,tt,ff,ff,ff,ff,ff,ff,ff,ff,ff] rfl rfl (take_ofW HT_.out HW_.out (by kernel_rfl)) (fun _ _ _ h => h) (Or.inl ⟨by rfl,?_⟩) hHeld ?_ ?_
     rotate_left
     ·rintro w' ⟨s0,s1,s2,s3⟩
      go_simp
      with_reducible rfl
     rotate_left
     ·simp only [Act.put,sA,sZ,sS,i64_w,i32_w]
      rfl
     refine one_ (i:=11) (N:=some 20) #[tt,tt,tt,tt,tt,tt,tt,tt,tt,tt,tt,tt,ff,ff,ff,ff,ff,ff,ff,ff] rfl rfl (one_of HT_.out (by kernel_rfl)) (by decide) (fun K hK => ?_)
     refine goes_ Try.func42 (by kernel_rfl) rfl #[.int .i64 a0,.agg #[.int .i64 a1_0,.int .i64 a1_1,.int .i64 a1_2,.int .i64 a1_3]] (by rfl) rfl rfl (by (try simp only [List.map_toArray,List.map_cons,List.map_nil]);first|done|rfl|(simp only [List.length_drop,List.length_take];rfl)) ?_
     with_reducible refine (key_Check.calls a0 a1_0 a1_1 a1_2 a1_3 t405 _ A16.out).mono ?_
     rintro e w21 ⟨rfl,hb⟩
     refine ⟨_,rfl,?_⟩
     have n0_:=Kb BK400 hb
     have n1_:=Kb BK401 hb
     have n2_:=Kh HB hb
     clear BK400 BK401 HB
     have BK400:=n0_;have BK401:=n1_;have HB:=n2_
     clear n0_ n1_ n2_
     (try clear hb)
     (try clear hb2)
     (try clear hk)
     (try clear hi)
     refine hK.out _ _ ⟨(kC BK400.out 0).trans rfl,(kC BK400.out 1).trans rfl,(kC BK400.out 2).trans rfl,(kC BK400.out 3).trans rfl⟩ (fun hHeld => ?_)
     clear hK K
     refine norm_ (a':=?_) ?_ ?_
     rotate_left
     ·show Act.put _ (some 20) _ = _
      simp only [Act.put,sA,sZ,sS,i64_w,i32_w]
      rfl
     refine pure_ (i:=12) (N:=some 21) (v:=?_) (a':=?_) #[tt,tt,tt,tt,tt,tt,tt,tt,tt,tt,tt,tt,tt,ff,ff,ff,ff,ff,ff,ff] rfl rfl (any_of HT_.out (by kernel_rfl)) (fun _ _ _ h => h) (Or.inl ⟨by rfl,?_⟩) ?_ ?_
     rotate_left
     ·intro w'
      go_simp
      with_reducible rfl
     rotate_left
     ·simp only [Act.put,sA,sZ,sS,i64_w,i32_w]
      rfl
     refine pure_ (i:=13) (N:=some 22) (v:=?_) (a':=?_) #[tt,tt,tt,tt,tt,tt,tt,tt,tt,tt,tt,tt,tt,tt,ff,ff,ff,ff,ff,ff] rfl rfl (any_of HT_.out (by kernel_rfl)) (fun _ _ _ h => h) (Or.inl ⟨by rfl,?_⟩) ?_ ?_
     rotate_left
     ·intro w'
      go_simp
      with_reducible rfl
     rotate_left
     ·simp only [Act.put,sA,sZ,sS,i64_w,i32_w]
      rfl
     refine pure_ (i:=14) (N:=some 23) (v:=undef) (a':=?_) #[tt,tt,tt,tt,tt,tt,tt,tt,tt,tt,tt,tt,tt,tt,tt,ff,ff,ff,ff,ff] rfl rfl (any_of HT_.out (by kernel_rfl)) (fun _ _ _ h => h) (Or.inr ⟨by rfl,rfl⟩) ?_ ?_
     rotate_left
     ·simp only [Act.put,sA,sZ,sS,i64_w,i32_w]
      rfl
     refine pure_ (i:=15) (N:=some 24) (v:=undef) (a':=?_) #[tt,tt,tt,tt,tt,tt,tt,tt,tt,tt,tt,tt,tt,tt,tt,tt,ff,ff,ff,ff] rfl rfl (any_of HT_.out (by kernel_rfl)) (fun _ _ _ h => h) (Or.inr ⟨by rfl,rfl⟩) ?_ ?_
     rotate_left
     ·simp only [Act.put,sA,sZ,sS,i64_w,i32_w]
      rfl
     refine pure_ (i:=16) (N:=some 25) (v:=undef) (a':=?_) #[tt,tt,tt,tt,tt,tt,tt,tt,tt,tt,tt,tt,tt,tt,tt,tt,tt,ff,ff,ff] rfl rfl (any_of HT_.out (by kernel_rfl)) (fun _ _ _ h => h) (Or.inr ⟨by rfl,rfl⟩) ?_ ?_
     rotate_left
     ·simp only [Act.put,sA,sZ,sS,i64_w,i32_w]
      rfl
     refine pure_ (i:=17) (N:=some 26) (v:=undef) (a':=?_) #[tt,tt,tt,tt,tt,tt,tt,tt,tt,tt,tt,tt,tt,tt,tt,tt,tt,tt,ff,ff] rfl rfl (any_of HT_.out (by kernel_rfl)) (fun _ _ _ h => h) (Or.inr ⟨by rfl,rfl⟩) ?_ ?_
     rotate_left
     ·simp only [Act.put,sA,sZ,sS,i64_w,i32_w]
      rfl
     refine pure_ (i:=18) (N:=some 27) (v:=?_) (a':=?_) #[tt,tt,tt,tt,tt,tt,tt,tt,tt,tt,tt,tt,tt,tt,tt,tt,tt,tt,tt,ff] rfl rfl (any_of HT_.out (by kernel_rfl)) (fun _ _ _ h => h) (Or.inl ⟨by rfl,?_⟩) ?_ ?_
     rotate_left
     ·intro w'
      go_simp
      with_reducible rfl
     rotate_left
     ·simp only [Act.put,sA,sZ,sS,i64_w,i32_w]
      rfl
     refine pure_ (i:=19) (N:=some 28) (v:=?_) (a':=?_) #[tt,tt,tt,tt,tt,tt,tt,tt,tt,tt,tt,tt,tt,tt,tt,tt,tt,tt,tt,tt] rfl rfl (any_of HT_.out (by kernel_rfl)) (fun _ _ _ h => h) (Or.inl ⟨by rfl,?_⟩) ?_ ?_
     rotate_left
     ·intro w'
      go_simp
      with_reducible rfl
     rotate_left
     ·simp only [Act.put,sA,sZ,sS,i64_w,i32_w]
      rfl
     refine done_ (done_of HT_.out (by kernel_rfl)) ?_
     try go_wp2
     go_meet
     case rel => exact ⟨_,(false),(by first|rfl|(simp;done)|(simp [*];done)),H',⟨by first|omega|exact Nat.le_refl _⟩,⟨by (with_reducible repeat (first|refine kN ?_ _|refine kD ?_|refine kA ?_ _));exact BK400.out⟩,⟨by (with_reducible repeat (first|refine kN ?_ _|refine kD ?_|refine kA ?_ _));exact BK401.out⟩,⟨by repeat (first|(with_reducible first|exact HB.out|apply bA|apply bN|apply bD|refine bS ?_ GE400.out|refine bS ?_ GE401.out)|exact HB.out)⟩⟩
    ·rw [if_neg c17] at H
     have c17b0 : (t405 == 0) = false:=beq_eq_false_iff_ne.mpr c17
     have c17b1 : (t405 != 0) = true:=bne_iff_ne.mpr c17
     replace H:=Option.bind_eq_some_iff.mp H
     obtain ⟨t406,A220,H⟩:=H
     replace H : (gazetteerlaw09_KeyTells.j0 k (t406 != 2) a1_0 a1_1 a1_2 a1_3 a2_0 a2_1 a2_2 a2_3) = some r:=H
     have A22:=Ak A220
     clear A220
     have H':=Ak H
     clear H
     try go_wp2
     have n0_:=Ak (kD BK400.out)
     have n1_:=Ak (kD BK401.out)
     have n2_:=Ak (bD HB.out)
     clear BK400 BK401 HB
     have BK400:=n0_;have BK401:=n1_;have HB:=n2_
     clear n0_ n1_ n2_
     refine start_ (n:=20) (S:=fun w' => w'.cell? ⟨gb400,0,none⟩ = some (.int .i64 a1_0)∧w'.cell? ⟨gb400,1,none⟩ = some (.int .i64 a1_1)∧w'.cell? ⟨gb400,2,none⟩ = some (.int .i64 a1_2)∧w'.cell? ⟨gb400,3,none⟩ = some (.int .i64 a1_3)) (ds:=[]) #[ff,ff,ff,ff,ff,ff,ff,ff,ff,ff,ff,ff,ff,ff,ff,ff,ff,ff,ff,ff] (by kernel_rfl) rfl rfl ⟨(kC BK400.out 0).trans rfl,(kC BK400.out 1).trans rfl,(kC BK400.out 2).trans rfl,(kC BK400.out 3).trans rfl⟩ (fun hHeld => ?_);refine with_tabW gazetteerlaw09_KeyTells.tab3 gazetteerlaw09_KeyTells.bits3 (fun HT_ HW_ => ?_)
     generalize w9.drew = w23 at BK400 BK401 HB hHeld ⊢
     refine pure_ (i:=0) (N:=some 9) (v:=?_) (a':=?_) #[tt,ff,ff,ff,ff,ff,ff,ff,ff,ff,ff,ff,ff,ff,ff,ff,ff,ff,ff,ff] rfl rfl (any_of HT_.out (by kernel_rfl)) (fun _ _ _ h => h) (Or.inl ⟨by rfl,?_⟩) ?_ ?_
     rotate_left
     ·intro w'
      go_simp
      with_reducible rfl
     rotate_left
     ·simp only [Act.put,sA,sZ,sS,i64_w,i32_w]
      rfl
     refine pure_ (i:=4) (N:=some 13) (v:=?_) (a':=?_) #[tt,ff,ff,ff,tt,ff,ff,ff,ff,ff,ff,ff,ff,ff,ff,ff,ff,ff,ff,ff] rfl rfl (any_of HT_.out (by kernel_rfl)) (fun _ _ _ h => h) (Or.inl ⟨by rfl,?_⟩) ?_ ?_
     rotate_left
     ·intro w'
      go_simp
      with_reducible rfl
     rotate_left
     ·simp only [Act.put,sA,sZ,sS,i64_w,i32_w]
      rfl
     refine take_ (i:=1) (N:=some 10) (v:=?_) (a':=?_) #[tt,tt,ff,ff,tt,ff,ff,ff,ff,ff,ff,ff,ff,ff,ff,ff,ff,ff,ff,ff] rfl rfl (take_ofW HT_.out HW_.out (by kernel_rfl)) (fun _ _ _ h => h) (Or.inl ⟨by rfl,?_⟩) hHeld ?_ ?_
     rotate_left
     ·rintro w' ⟨s0,s1,s2,s3⟩
      go_simp
      with_reducible rfl
     rotate_left
     ·simp only [Act.put,sA,sZ,sS,i64_w,i32_w]
      rfl
     refine take_ (i:=5) (N:=some 14) (v:=?_) (a':=?_) #[tt,tt,ff,ff,tt,tt,ff,ff,ff,ff,ff,ff,ff,ff,ff,ff,ff,ff,ff,ff] rfl rfl (take_ofW HT_.out HW_.out (by kernel_rfl)) (fun _ _ _ h => h) (Or.inl ⟨by rfl,?_⟩) hHeld ?_ ?_
     rotate_left
     ·rintro w' ⟨s0,s1,s2,s3⟩
      go_simp
      with_reducible rfl
     rotate_left
     ·simp only [Act.put,sA,sZ,sS,i64_w,i32_w]
      rfl
     refine one_ (i:=2) (N:=some 11) #[tt,tt,tt,ff,tt,tt,ff,ff,ff,ff,ff,ff,ff,ff,ff,ff,ff,ff,ff,ff] rfl rfl (one_of HT_.out (by kernel_rfl)) (by decide) (fun K hK => ?_)
     refine goes_ Try.func42 (by kernel_rfl) rfl #[.int .i64 a0,.agg #[.int .i64 a1_0,.int .i64 a1_1,.int .i64 a1_2,.int .i64 a1_3]] (by rfl) rfl rfl (by (try simp only [List.map_toArray,List.map_cons,List.map_nil]);first|done|rfl|(simp only [List.length_drop,List.length_take];rfl)) ?_
     with_reducible refine (key_Check.calls a0 a1_0 a1_1 a1_2 a1_3 t403 _ A10.out).mono ?_
     rintro e w24 ⟨rfl,hb⟩
     refine ⟨_,rfl,?_⟩
     have n0_:=Kb BK400 hb
     have n1_:=Kb BK401 hb
     have n2_:=Kh HB hb
     clear BK400 BK401 HB
     have BK400:=n0_;have BK401:=n1_;have HB:=n2_
     clear n0_ n1_ n2_
     (try clear hb)
     (try clear hb2)
     (try clear hk)
     (try clear hi)
     refine hK.out _ _ ⟨(kC BK400.out 0).trans rfl,(kC BK400.out 1).trans rfl,(kC BK400.out 2).trans rfl,(kC BK400.out 3).trans rfl⟩ (fun hHeld => ?_)
     clear hK K
     refine norm_ (a':=?_) ?_ ?_
     rotate_left
     ·show Act.put _ (some 11) _ = _
      simp only [Act.put,sA,sZ,sS,i64_w,i32_w]
      rfl
     refine pure_ (i:=3) (N:=some 12) (v:=?_) (a':=?_) #[tt,tt,tt,tt,tt,tt,ff,ff,ff,ff,ff,ff,ff,ff,ff,ff,ff,ff,ff,ff] rfl rfl (any_of HT_.out (by kernel_rfl)) (fun _ _ _ h => h) (Or.inl ⟨by rfl,?_⟩) ?_ ?_
     rotate_left
     ·intro w'
      go_simp
      with_reducible rfl
     rotate_left
     ·simp only [Act.put,sA,sZ,sS,i64_w,i32_w]
      rfl
     refine one_ (i:=6) (N:=some 15) #[tt,tt,tt,tt,tt,tt,tt,ff,ff,ff,ff,ff,ff,ff,ff,ff,ff,ff,ff,ff] rfl rfl (one_of HT_.out (by kernel_rfl)) (by decide) (fun K hK => ?_)
     refine goes_ Try.func43 (by kernel_rfl) rfl #[.int .i64 a0,.agg #[.int .i64 a1_0,.int .i64 a1_1,.int .i64 a1_2,.int .i64 a1_3]] (by rfl) rfl rfl (by (try simp only [List.map_toArray,List.map_cons,List.map_nil]);first|done|rfl|(simp only [List.length_drop,List.length_take];rfl)) ?_
     with_reducible refine (gazetteerref09_Right.calls a0 a1_0 a1_1 a1_2 a1_3 t404 _ A11.out).mono ?_
     rintro e w25 ⟨rfl,hb⟩
     refine ⟨_,rfl,?_⟩
     have n0_:=Kb BK400 hb
     have n1_:=Kb BK401 hb
     have n2_:=Kh HB hb
     clear BK400 BK401 HB
     have BK400:=n0_;have BK401:=n1_;have HB:=n2_
     clear n0_ n1_ n2_
     (try clear hb)
     (try clear hb2)
     (try clear hk)
     (try clear hi)
     refine hK.out _ _ ⟨(kC BK400.out 0).trans rfl,(kC BK400.out 1).trans rfl,(kC BK400.out 2).trans rfl,(kC BK400.out 3).trans rfl⟩ (fun hHeld => ?_)
     clear hK K
     refine norm_ (a':=?_) ?_ ?_
     rotate_left
     ·show Act.put _ (some 15) _ = _
      simp only [Act.put,sA,sZ,sS,i64_w,i32_w]
      rfl
     refine pure_ (i:=7) (N:=some 16) (v:=?_) (a':=?_) #[tt,tt,tt,tt,tt,tt,tt,tt,ff,ff,ff,ff,ff,ff,ff,ff,ff,ff,ff,ff] rfl rfl (any_of HT_.out (by kernel_rfl)) (fun _ _ _ h => h) (Or.inl ⟨by rfl,?_⟩) ?_ ?_
     rotate_left
     ·intro w'
      go_simp
      with_reducible rfl
     rotate_left
     ·simp only [Act.put,sA,sZ,sS,i64_w,i32_w]
      rfl
     refine pure_ (i:=8) (N:=some 17) (v:=?_) (a':=?_) #[tt,tt,tt,tt,tt,tt,tt,tt,tt,ff,ff,ff,ff,ff,ff,ff,ff,ff,ff,ff] rfl rfl (any_of HT_.out (by kernel_rfl)) (fun _ _ _ h => h) (Or.inl ⟨by rfl,?_⟩) ?_ ?_
     rotate_left
     ·intro w'
      go_simp
      with_reducible rfl
     rotate_left
     ·simp only [Act.put,sA,sZ,sS,i64_w,i32_w]
      rfl
     refine pure_ (i:=9) (N:=some 18) (v:=?_) (a':=?_) #[tt,tt,tt,tt,tt,tt,tt,tt,tt,tt,ff,ff,ff,ff,ff,ff,ff,ff,ff,ff] rfl rfl (any_of HT_.out (by kernel_rfl)) (fun _ _ _ h => h) (Or.inl ⟨by rfl,?_⟩) ?_ ?_
     rotate_left
     ·intro w'
      go_simp
      with_reducible rfl
     rotate_left
     ·simp only [Act.put,sA,sZ,sS,i64_w,i32_w]
      rfl
     refine take_ (i:=10) (N:=some 19) (v:=?_) (a':=?_) #[tt,tt,tt,tt,tt,tt,tt,tt,tt,tt,tt,ff,ff,ff,ff,ff,ff,ff,ff,ff] rfl rfl (take_ofW HT_.out HW_.out (by kernel_rfl)) (fun _ _ _ h => h) (Or.inl ⟨by rfl,?_⟩) hHeld ?_ ?_
     rotate_left
     ·rintro w' ⟨s0,s1,s2,s3⟩
      go_simp
      with_reducible rfl
     rotate_left
     ·simp only [Act.put,sA,sZ,sS,i64_w,i32_w]
      rfl
     refine one_ (i:=11) (N:=some 20) #[tt,tt,tt,tt,tt,tt,tt,tt,tt,tt,tt,tt,ff,ff,ff,ff,ff,ff,ff,ff] rfl rfl (one_of HT_.out (by kernel_rfl)) (by decide) (fun K hK => ?_)
     refine goes_ Try.func42 (by kernel_rfl) rfl #[.int .i64 a0,.agg #[.int .i64 a1_0,.int .i64 a1_1,.int .i64 a1_2,.int .i64 a1_3]] (by rfl) rfl rfl (by (try simp only [List.map_toArray,List.map_cons,List.map_nil]);first|done|rfl|(simp only [List.length_drop,List.length_take];rfl)) ?_
     with_reducible refine (key_Check.calls a0 a1_0 a1_1 a1_2 a1_3 t405 _ A16.out).mono ?_
     rintro e w26 ⟨rfl,hb⟩
     refine ⟨_,rfl,?_⟩
     have n0_:=Kb BK400 hb
     have n1_:=Kb BK401 hb
     have n2_:=Kh HB hb
     clear BK400 BK401 HB
     have BK400:=n0_;have BK401:=n1_;have HB:=n2_
     clear n0_ n1_ n2_
     (try clear hb)
     (try clear hb2)
     (try clear hk)
     (try clear hi)
     refine hK.out _ _ ⟨(kC BK400.out 0).trans rfl,(kC BK400.out 1).trans rfl,(kC BK400.out 2).trans rfl,(kC BK400.out 3).trans rfl⟩ (fun hHeld => ?_)
     clear hK K
     refine norm_ (a':=?_) ?_ ?_
     rotate_left
     ·show Act.put _ (some 20) _ = _
      simp only [Act.put,sA,sZ,sS,i64_w,i32_w]
      rfl
     refine pure_ (i:=12) (N:=some 21) (v:=?_) (a':=?_) #[tt,tt,tt,tt,tt,tt,tt,tt,tt,tt,tt,tt,tt,ff,ff,ff,ff,ff,ff,ff] rfl rfl (any_of HT_.out (by kernel_rfl)) (fun _ _ _ h => h) (Or.inl ⟨by rfl,?_⟩) ?_ ?_
     rotate_left
     ·intro w'
      go_simp
      with_reducible rfl
     rotate_left
     ·simp only [Act.put,sA,sZ,sS,i64_w,i32_w]
      rfl
     refine pure_ (i:=13) (N:=some 22) (v:=?_) (a':=?_) #[tt,tt,tt,tt,tt,tt,tt,tt,tt,tt,tt,tt,tt,tt,ff,ff,ff,ff,ff,ff] rfl rfl (any_of HT_.out (by kernel_rfl)) (fun _ _ _ h => h) (Or.inl ⟨by rfl,?_⟩) ?_ ?_
     rotate_left
     ·intro w'
      go_simp
      with_reducible rfl
     rotate_left
     ·simp only [Act.put,sA,sZ,sS,i64_w,i32_w]
      rfl
     refine pure_ (i:=14) (N:=some 23) (v:=?_) (a':=?_) #[tt,tt,tt,tt,tt,tt,tt,tt,tt,tt,tt,tt,tt,tt,tt,ff,ff,ff,ff,ff] rfl rfl (any_of HT_.out (by kernel_rfl)) (fun _ _ _ h => h) (Or.inl ⟨by rfl,?_⟩) ?_ ?_
     rotate_left
     ·intro w'
      go_simp
      with_reducible rfl
     rotate_left
     ·simp only [Act.put,sA,sZ,sS,i64_w,i32_w]
      rfl
     refine take_ (i:=15) (N:=some 24) (v:=?_) (a':=?_) #[tt,tt,tt,tt,tt,tt,tt,tt,tt,tt,tt,tt,tt,tt,tt,tt,ff,ff,ff,ff] rfl rfl (take_ofW HT_.out HW_.out (by kernel_rfl)) (fun _ _ _ h => h) (Or.inl ⟨by rfl,?_⟩) hHeld ?_ ?_
     rotate_left
     ·rintro w' ⟨s0,s1,s2,s3⟩
      go_simp
      with_reducible rfl
     rotate_left
     ·simp only [Act.put,sA,sZ,sS,i64_w,i32_w]
      rfl
     refine one_ (i:=16) (N:=some 25) #[tt,tt,tt,tt,tt,tt,tt,tt,tt,tt,tt,tt,tt,tt,tt,tt,tt,ff,ff,ff] rfl rfl (one_of HT_.out (by kernel_rfl)) (by decide) (fun K hK => ?_)
     refine goes_ Try.func42 (by kernel_rfl) rfl #[.int .i64 a0,.agg #[.int .i64 a1_0,.int .i64 a1_1,.int .i64 a1_2,.int .i64 a1_3]] (by rfl) rfl rfl (by (try simp only [List.map_toArray,List.map_cons,List.map_nil]);first|done|rfl|(simp only [List.length_drop,List.length_take];rfl)) ?_
     with_reducible refine (key_Check.calls a0 a1_0 a1_1 a1_2 a1_3 t406 _ A22.out).mono ?_
     rintro e w27 ⟨rfl,hb⟩
     refine ⟨_,rfl,?_⟩
     have n0_:=Kb BK400 hb
     have n1_:=Kb BK401 hb
     have n2_:=Kh HB hb
     clear BK400 BK401 HB
     have BK400:=n0_;have BK401:=n1_;have HB:=n2_
     clear n0_ n1_ n2_
     (try clear hb)
     (try clear hb2)
     (try clear hk)
     (try clear hi)
     refine hK.out _ _ ⟨(kC BK400.out 0).trans rfl,(kC BK400.out 1).trans rfl,(kC BK400.out 2).trans rfl,(kC BK400.out 3).trans rfl⟩ (fun hHeld => ?_)
     clear hK K
     refine norm_ (a':=?_) ?_ ?_
     rotate_left
     ·show Act.put _ (some 25) _ = _
      simp only [Act.put,sA,sZ,sS,i64_w,i32_w]
      rfl
     refine pure_ (i:=17) (N:=some 26) (v:=?_) (a':=?_) #[tt,tt,tt,tt,tt,tt,tt,tt,tt,tt,tt,tt,tt,tt,tt,tt,tt,tt,ff,ff] rfl rfl (any_of HT_.out (by kernel_rfl)) (fun _ _ _ h => h) (Or.inl ⟨by rfl,?_⟩) ?_ ?_
     rotate_left
     ·intro w'
      go_simp
      with_reducible rfl
     rotate_left
     ·simp only [Act.put,sA,sZ,sS,i64_w,i32_w]
      rfl
     refine pure_ (i:=18) (N:=some 27) (v:=?_) (a':=?_) #[tt,tt,tt,tt,tt,tt,tt,tt,tt,tt,tt,tt,tt,tt,tt,tt,tt,tt,tt,ff] rfl rfl (any_of HT_.out (by kernel_rfl)) (fun _ _ _ h => h) (Or.inl ⟨by rfl,?_⟩) ?_ ?_
     rotate_left
     ·intro w'
      go_simp
      with_reducible rfl
     rotate_left
     ·simp only [Act.put,sA,sZ,sS,i64_w,i32_w]
      rfl
     refine pure_ (i:=19) (N:=some 28) (v:=?_) (a':=?_) #[tt,tt,tt,tt,tt,tt,tt,tt,tt,tt,tt,tt,tt,tt,tt,tt,tt,tt,tt,tt] rfl rfl (any_of HT_.out (by kernel_rfl)) (fun _ _ _ h => h) (Or.inl ⟨by rfl,?_⟩) ?_ ?_
     rotate_left
     ·intro w'
      go_simp
      with_reducible rfl
     rotate_left
     ·simp only [Act.put,sA,sZ,sS,i64_w,i32_w]
      rfl
     refine done_ (done_of HT_.out (by kernel_rfl)) ?_
     try go_wp2
     go_meet
     case rel => exact ⟨_,((t406 != 2)),(by first|rfl|(simp;done)|(simp [*];done)),H',⟨by first|omega|exact Nat.le_refl _⟩,⟨by (with_reducible repeat (first|refine kN ?_ _|refine kD ?_|refine kA ?_ _));exact BK400.out⟩,⟨by (with_reducible repeat (first|refine kN ?_ _|refine kD ?_|refine kA ?_ _));exact BK401.out⟩,⟨by repeat (first|(with_reducible first|exact HB.out|apply bA|apply bN|apply bD|refine bS ?_ GE400.out|refine bS ?_ GE401.out)|exact HB.out)⟩⟩
  case rest =>
   clear HC6
   try clear c1
   try clear p2
   try clear c4
   try clear c12
   try clear c12b0
   try clear c12b1
   try clear c12b2
   try clear c17
   try clear c17b0
   try clear c17b1
   obtain ⟨kq,x28_5,rfl,HA,HJ5,BK400,BK401,HB⟩:=hcut
   cases kq with
   | zero => exact absurd HA.out (by simp [gazetteerlaw09_KeyTells.j0])
   | succ kj5 =>
    have H:=HA.out
    clear HA
    simp only [gazetteerlaw09_KeyTells.j0] at H
    by_cases c28 : x28_5 = true
    ·subst c28
     have H1 : (some false) = some r:=by rw [if_pos rfl] at H;exact H
     clear H
     have H:=H1
     clear H1
     obtain rfl:=Option.some.inj H
     go_wp2
     go_ret
     exact ⟨by first|rfl|(simp [errW_none,errW_some] <;> rfl)|(simp [*,errW_none,errW_some] <;> rfl),by repeat (first|(with_reducible first|exact HB.out|apply bA|apply bN|apply bD|refine bS ?_ GE400.out|refine bS ?_ GE401.out)|exact HB.out)⟩
    ·replace c28:=Bool.eq_false_iff.mpr c28
     subst c28
     have H1 : ((key_Meets.f a1_0 a1_1 a1_2 a1_3 a2_0 a2_1 a2_2 a2_3).bind fun t407 => ((gazetteerref09_Meets.f kj5 a1_0 a1_1 a1_2 a1_3 a2_0 a2_1 a2_2 a2_3).bind fun t408 => (if (t407 == t408) = true then ((key_Covers.f a1_0 a1_1 a1_2 a1_3 a2_0 a2_1 a2_2 a2_3).bind fun t409 => ((gazetteerref09_Covers.f a1_0 a1_1 a1_2 a1_3 a2_0 a2_1 a2_2 a2_3).bind fun t410 => (if (t409 == t410) = true then ((key_Union.f a1_0 a1_1 a1_2 a1_3 a2_0 a2_1 a2_2 a2_3).bind fun bt411 => ((gazetteerref09_Union.f kj5 a1_0 a1_1 a1_2 a1_3 a2_0 a2_1 a2_2 a2_3).bind fun bt415 => (some (bt411.1 == bt415.1 && (bt411.2.1 == bt415.2.1 && (bt411.2.2.1 == bt415.2.2.1 && (bt411.2.2.2 == bt415.2.2.2))))))) else (some false)))) else (some false)))) = some r:=by rw [if_neg (show ¬ (false = true) by decide)] at H;exact H
     clear H
     have H:=H1
     clear H1
     replace H:=Option.bind_eq_some_iff.mp H
     obtain ⟨t407,A290,H⟩:=H
     replace H : ((gazetteerref09_Meets.f kj5 a1_0 a1_1 a1_2 a1_3 a2_0 a2_1 a2_2 a2_3).bind fun t408 => (if (t407 == t408) = true then ((key_Covers.f a1_0 a1_1 a1_2 a1_3 a2_0 a2_1 a2_2 a2_3).bind fun t409 => ((gazetteerref09_Covers.f a1_0 a1_1 a1_2 a1_3 a2_0 a2_1 a2_2 a2_3).bind fun t410 => (if (t409 == t410) = true then ((key_Union.f a1_0 a1_1 a1_2 a1_3 a2_0 a2_1 a2_2 a2_3).bind fun bt411 => ((gazetteerref09_Union.f kj5 a1_0 a1_1 a1_2 a1_3 a2_0 a2_1 a2_2 a2_3).bind fun bt415 => (some (bt411.1 == bt415.1 && (bt411.2.1 == bt415.2.1 && (bt411.2.2.1 == bt415.2.2.1 && (bt411.2.2.2 == bt415.2.2.2))))))) else (some false)))) else (some false))) = some r:=H
     have A29:=Ak A290
     clear A290
     replace H:=Option.bind_eq_some_iff.mp H
     obtain ⟨t408,A300,H⟩:=H
     replace H : (if (t407 == t408) = true then ((key_Covers.f a1_0 a1_1 a1_2 a1_3 a2_0 a2_1 a2_2 a2_3).bind fun t409 => ((gazetteerref09_Covers.f a1_0 a1_1 a1_2 a1_3 a2_0 a2_1 a2_2 a2_3).bind fun t410 => (if (t409 == t410) = true then ((key_Union.f a1_0 a1_1 a1_2 a1_3 a2_0 a2_1 a2_2 a2_3).bind fun bt411 => ((gazetteerref09_Union.f kj5 a1_0 a1_1 a1_2 a1_3 a2_0 a2_1 a2_2 a2_3).bind fun bt415 => (some (bt411.1 == bt415.1 && (bt411.2.1 == bt415.2.1 && (bt411.2.2.1 == bt415.2.2.1 && (bt411.2.2.2 == bt415.2.2.2))))))) else (some false)))) else (some false)) = some r:=H
     have A30:=Ak A300
     clear A300
     by_cases c31 : (t407 == t408) = true
     ·rw [if_pos c31] at H
      have c31b0 : (t407 == t408) = true:=c31
      (try (have c31b1 : decide (t407 = t408) = true:=by simpa using c31))
      (try (have c31b2 : (t407 == t408) = true:=by simpa using c31))
      clear c31
      replace H:=Option.bind_eq_some_iff.mp H
      obtain ⟨t409,A320,H⟩:=H
      replace H : ((gazetteerref09_Covers.f a1_0 a1_1 a1_2 a1_3 a2_0 a2_1 a2_2 a2_3).bind fun t410 => (if (t409 == t410) = true then ((key_Union.f a1_0 a1_1 a1_2 a1_3 a2_0 a2_1 a2_2 a2_3).bind fun bt411 => ((gazetteerref09_Union.f kj5 a1_0 a1_1 a1_2 a1_3 a2_0 a2_1 a2_2 a2_3).bind fun bt415 => (some (bt411.1 == bt415.1 && (bt411.2.1 == bt415.2.1 && (bt411.2.2.1 == bt415.2.2.1 && (bt411.2.2.2 == bt415.2.2.2))))))) else (some false))) = some r:=H
      have A32:=Ak A320
      clear A320
      replace H:=Option.bind_eq_some_iff.mp H
      obtain ⟨t410,A330,H⟩:=H
      replace H : (if (t409 == t410) = true then ((key_Union.f a1_0 a1_1 a1_2 a1_3 a2_0 a2_1 a2_2 a2_3).bind fun bt411 => ((gazetteerref09_Union.f kj5 a1_0 a1_1 a1_2 a1_3 a2_0 a2_1 a2_2 a2_3).bind fun bt415 => (some (bt411.1 == bt415.1 && (bt411.2.1 == bt415.2.1 && (bt411.2.2.1 == bt415.2.2.1 && (bt411.2.2.2 == bt415.2.2.2))))))) else (some false)) = some r:=H
      have A33:=Ak A330
      clear A330
      by_cases c34 : (t409 == t410) = true
      ·rw [if_pos c34] at H
       have c34b0 : (t409 == t410) = true:=c34
       (try (have c34b1 : decide (t409 = t410) = true:=by simpa using c34))
       (try (have c34b2 : (t409 == t410) = true:=by simpa using c34))
       clear c34
       replace H:=Option.bind_eq_some_iff.mp H
       obtain ⟨⟨t411,t412,t413,t414⟩,A350,H⟩:=H
       replace H : ((gazetteerref09_Union.f kj5 a1_0 a1_1 a1_2 a1_3 a2_0 a2_1 a2_2 a2_3).bind fun bt415 => (some (t411 == bt415.1 && (t412 == bt415.2.1 && (t413 == bt415.2.2.1 && (t414 == bt415.2.2.2)))))) = some r:=H
       have A35:=Ak A350
       clear A350
       replace H:=Option.bind_eq_some_iff.mp H
       obtain ⟨⟨t415,t416,t417,t418⟩,A360,H⟩:=H
       replace H : (some (t411 == t415 && (t412 == t416 && (t413 == t417 && (t414 == t418))))) = some r:=H
       have A36:=Ak A360
       clear A360
       obtain rfl:=Option.some.inj H
       try go_wp2
       have n0_:=Ak (kD BK400.out)
       have n1_:=Ak (kD BK401.out)
       have n2_:=Ak (bD HB.out)
       clear BK400 BK401 HB
       have BK400:=n0_;have BK401:=n1_;have HB:=n2_
       clear n0_ n1_ n2_
       refine start_ (n:=26) (S:=fun w' => w'.cell? ⟨gb400,0,none⟩ = some (.int .i64 a1_0)∧w'.cell? ⟨gb400,1,none⟩ = some (.int .i64 a1_1)∧w'.cell? ⟨gb400,2,none⟩ = some (.int .i64 a1_2)∧w'.cell? ⟨gb400,3,none⟩ = some (.int .i64 a1_3)∧w'.cell? ⟨gb401,0,none⟩ = some (.int .i64 a2_0)∧w'.cell? ⟨gb401,1,none⟩ = some (.int .i64 a2_1)∧w'.cell? ⟨gb401,2,none⟩ = some (.int .i64 a2_2)∧w'.cell? ⟨gb401,3,none⟩ = some (.int .i64 a2_3)) (ds:=[]) #[ff,ff,ff,ff,ff,ff,ff,ff,ff,ff,ff,ff,ff,ff,ff,ff,ff,ff,ff,ff,ff,ff,ff,ff,ff,ff] (by kernel_rfl) rfl rfl ⟨(kC BK400.out 0).trans rfl,(kC BK400.out 1).trans rfl,(kC BK400.out 2).trans rfl,(kC BK400.out 3).trans rfl,(kC BK401.out 0).trans rfl,(kC BK401.out 1).trans rfl,(kC BK401.out 2).trans rfl,(kC BK401.out 3).trans rfl⟩ (fun hHeld => ?_);refine with_tabW gazetteerlaw09_KeyTells.tab5 gazetteerlaw09_KeyTells.bits5 (fun HT_ HW_ => ?_)
       generalize wc.drew = w37 at BK400 BK401 HB hHeld ⊢
       refine take_ (i:=0) (N:=some 29) (v:=?_) (a':=?_) #[tt,ff,ff,ff,ff,ff,ff,ff,ff,ff,ff,ff,ff,ff,ff,ff,ff,ff,ff,ff,ff,ff,ff,ff,ff,ff] rfl rfl (take_ofW HT_.out HW_.out (by kernel_rfl)) (fun _ _ _ h => h) (Or.inl ⟨by rfl,?_⟩) hHeld ?_ ?_
       rotate_left
       ·rintro w' ⟨s0,s1,s2,s3,s4,s5,s6,s7⟩
        go_simp
        with_reducible rfl
       rotate_left
       ·simp only [Act.put,sA,sZ,sS,i64_w,i32_w]
        rfl
       refine take_ (i:=1) (N:=some 30) (v:=?_) (a':=?_) #[tt,tt,ff,ff,ff,ff,ff,ff,ff,ff,ff,ff,ff,ff,ff,ff,ff,ff,ff,ff,ff,ff,ff,ff,ff,ff] rfl rfl (take_ofW HT_.out HW_.out (by kernel_rfl)) (fun _ _ _ h => h) (Or.inl ⟨by rfl,?_⟩) hHeld ?_ ?_
       rotate_left
       ·rintro w' ⟨s0,s1,s2,s3,s4,s5,s6,s7⟩
        go_simp
        with_reducible rfl
       rotate_left
       ·simp only [Act.put,sA,sZ,sS,i64_w,i32_w]
        rfl
       refine take_ (i:=3) (N:=some 32) (v:=?_) (a':=?_) #[tt,tt,ff,tt,ff,ff,ff,ff,ff,ff,ff,ff,ff,ff,ff,ff,ff,ff,ff,ff,ff,ff,ff,ff,ff,ff] rfl rfl (take_ofW HT_.out HW_.out (by kernel_rfl)) (fun _ _ _ h => h) (Or.inl ⟨by rfl,?_⟩) hHeld ?_ ?_
       rotate_left
       ·rintro w' ⟨s0,s1,s2,s3,s4,s5,s6,s7⟩
        go_simp
        with_reducible rfl
       rotate_left
       ·simp only [Act.put,sA,sZ,sS,i64_w,i32_w]
        rfl
       refine take_ (i:=4) (N:=some 33) (v:=?_) (a':=?_) #[tt,tt,ff,tt,tt,ff,ff,ff,ff,ff,ff,ff,ff,ff,ff,ff,ff,ff,ff,ff,ff,ff,ff,ff,ff,ff] rfl rfl (take_ofW HT_.out HW_.out (by kernel_rfl)) (fun _ _ _ h => h) (Or.inl ⟨by rfl,?_⟩) hHeld ?_ ?_
       rotate_left
       ·rintro w' ⟨s0,s1,s2,s3,s4,s5,s6,s7⟩
        go_simp
        with_reducible rfl
       rotate_left
       ·simp only [Act.put,sA,sZ,sS,i64_w,i32_w]
        rfl
       refine one_ (i:=2) (N:=some 31) #[tt,tt,tt,tt,tt,ff,ff,ff,ff,ff,ff,ff,ff,ff,ff,ff,ff,ff,ff,ff,ff,ff,ff,ff,ff,ff] rfl rfl (one_of HT_.out (by kernel_rfl)) (by decide) (fun K hK => ?_)
       refine goes_ Try.func34 (by kernel_rfl) rfl #[.agg #[.int .i64 a1_0,.int .i64 a1_1,.int .i64 a1_2,.int .i64 a1_3],.agg #[.int .i64 a2_0,.int .i64 a2_1,.int .i64 a2_2,.int .i64 a2_3]] (by rfl) rfl rfl (by (try simp only [List.map_toArray,List.map_cons,List.map_nil]);first|done|rfl|(simp only [List.length_drop,List.length_take];rfl)) ?_
       with_reducible refine (key_Meets.calls a1_0 a1_1 a1_2 a1_3 a2_0 a2_1 a2_2 a2_3 t407 _ A29.out).mono ?_
       rintro e w38 ⟨rfl,hb⟩
       refine ⟨_,rfl,?_⟩
       have n0_:=Kb BK400 hb
       have n1_:=Kb BK401 hb
       have n2_:=Kh HB hb
       clear BK400 BK401 HB
       have BK400:=n0_;have BK401:=n1_;have HB:=n2_
       clear n0_ n1_ n2_
       (try clear hb)
       (try clear hb2)
       (try clear hk)
       (try clear hi)
       refine hK.out _ _ ⟨(kC BK400.out 0).trans rfl,(kC BK400.out 1).trans rfl,(kC BK400.out 2).trans rfl,(kC BK400.out 3).trans rfl,(kC BK401.out 0).trans rfl,(kC BK401.out 1).trans rfl,(kC BK401.out 2).trans rfl,(kC BK401.out 3).trans rfl⟩ (fun hHeld => ?_)
       clear hK K
       refine norm_ (a':=?_) ?_ ?_
       rotate_left
       ·show Act.put _ (some 31) _ = _
        simp only [Act.put,sA,sZ,sS,i64_w,i32_w]
        rfl
       refine one_ (i:=5) (N:=some 34) #[tt,tt,tt,tt,tt,tt,ff,ff,ff,ff,ff,ff,ff,ff,ff,ff,ff,ff,ff,ff,ff,ff,ff,ff,ff,ff] rfl rfl (one_of HT_.out (by kernel_rfl)) (by decide) (fun K hK => ?_)
       refine goes_ Try.func44 (by kernel_rfl) rfl #[.agg #[.int .i64 a1_0,.int .i64 a1_1,.int .i64 a1_2,.int .i64 a1_3],.agg #[.int .i64 a2_0,.int .i64 a2_1,.int .i64 a2_2,.int .i64 a2_3]] (by rfl) rfl rfl (by (try simp only [List.map_toArray,List.map_cons,List.map_nil]);first|done|rfl|(simp only [List.length_drop,List.length_take];rfl)) ?_
       with_reducible refine (gazetteerref09_Meets.calls kj5 a1_0 a1_1 a1_2 a1_3 a2_0 a2_1 a2_2 a2_3 t408 _ A30.out).mono ?_
       rintro e w39 ⟨rfl,hb⟩
       refine ⟨_,rfl,?_⟩
       have n0_:=Kb BK400 hb
       have n1_:=Kb BK401 hb
       have n2_:=Kh HB hb
       clear BK400 BK401 HB
       have BK400:=n0_;have BK401:=n1_;have HB:=n2_
       clear n0_ n1_ n2_
       (try clear hb)
       (try clear hb2)
       (try clear hk)
       (try clear hi)
       refine hK.out _ _ ⟨(kC BK400.out 0).trans rfl,(kC BK400.out 1).trans rfl,(kC BK400.out 2).trans rfl,(kC BK400.out 3).trans rfl,(kC BK401.out 0).trans rfl,(kC BK401.out 1).trans rfl,(kC BK401.out 2).trans rfl,(kC BK401.out 3).trans rfl⟩ (fun hHeld => ?_)
       clear hK K
       refine norm_ (a':=?_) ?_ ?_
       rotate_left
       ·show Act.put _ (some 34) _ = _
        simp only [Act.put,sA,sZ,sS,i64_w,i32_w]
        rfl
       refine pure_ (i:=6) (N:=some 35) (v:=?_) (a':=?_) #[tt,tt,tt,tt,tt,tt,tt,ff,ff,ff,ff,ff,ff,ff,ff,ff,ff,ff,ff,ff,ff,ff,ff,ff,ff,ff] rfl rfl (any_of HT_.out (by kernel_rfl)) (fun _ _ _ h => h) (Or.inl ⟨by rfl,?_⟩) ?_ ?_
       rotate_left
       ·intro w'
        go_simp
        with_reducible rfl
       rotate_left
       ·simp only [Act.put,sA,sZ,sS,i64_w,i32_w]
        rfl
       refine pure_ (i:=7) (N:=some 36) (v:=?_) (a':=?_) #[tt,tt,tt,tt,tt,tt,tt,tt,ff,ff,ff,ff,ff,ff,ff,ff,ff,ff,ff,ff,ff,ff,ff,ff,ff,ff] rfl rfl (any_of HT_.out (by kernel_rfl)) (fun _ _ _ h => h) (Or.inl ⟨by rfl,?_⟩) ?_ ?_
       rotate_left
       ·intro w'
        go_simp
        with_reducible rfl
       rotate_left
       ·simp only [Act.put,sA,sZ,sS,i64_w,i32_w]
        rfl
       refine take_ (i:=8) (N:=some 37) (v:=?_) (a':=?_) #[tt,tt,tt,tt,tt,tt,tt,tt,tt,ff,ff,ff,ff,ff,ff,ff,ff,ff,ff,ff,ff,ff,ff,ff,ff,ff] rfl rfl (take_ofW HT_.out HW_.out (by kernel_rfl)) (fun _ _ _ h => h) (Or.inl ⟨by rfl,?_⟩) hHeld ?_ ?_
       rotate_left
       ·rintro w' ⟨s0,s1,s2,s3,s4,s5,s6,s7⟩
        go_simp
        with_reducible rfl
       rotate_left
       ·simp only [Act.put,sA,sZ,sS,i64_w,i32_w]
        rfl
       refine take_ (i:=9) (N:=some 38) (v:=?_) (a':=?_) #[tt,tt,tt,tt,tt,tt,tt,tt,tt,tt,ff,ff,ff,ff,ff,ff,ff,ff,ff,ff,ff,ff,ff,ff,ff,ff] rfl rfl (take_ofW HT_.out HW_.out (by kernel_rfl)) (fun _ _ _ h => h) (Or.inl ⟨by rfl,?_⟩) hHeld ?_ ?_
       rotate_left
       ·rintro w' ⟨s0,s1,s2,s3,s4,s5,s6,s7⟩
        go_simp
        with_reducible rfl
       rotate_left
       ·simp only [Act.put,sA,sZ,sS,i64_w,i32_w]
        rfl
       refine take_ (i:=11) (N:=some 40) (v:=?_) (a':=?_) #[tt,tt,tt,tt,tt,tt,tt,tt,tt,tt,ff,tt,ff,ff,ff,ff,ff,ff,ff,ff,ff,ff,ff,ff,ff,ff] rfl rfl (take_ofW HT_.out HW_.out (by kernel_rfl)) (fun _ _ _ h => h) (Or.inl ⟨by rfl,?_⟩) hHeld ?_ ?_
       rotate_left
       ·rintro w' ⟨s0,s1,s2,s3,s4,s5,s6,s7⟩
        go_simp
        with_reducible rfl
       rotate_left
       ·simp only [Act.put,sA,sZ,sS,i64_w,i32_w]
        rfl
       refine take_ (i:=12) (N:=some 41) (v:=?_) (a':=?_) #[tt,tt,tt,tt,tt,tt,tt,tt,tt,tt,ff,tt,tt,ff,ff,ff,ff,ff,ff,ff,ff,ff,ff,ff,ff,ff] rfl rfl (take_ofW HT_.out HW_.out (by kernel_rfl)) (fun _ _ _ h => h) (Or.inl ⟨by rfl,?_⟩) hHeld ?_ ?_
       rotate_left
       ·rintro w' ⟨s0,s1,s2,s3,s4,s5,s6,s7⟩
        go_simp
        with_reducible rfl
       rotate_left
       ·simp only [Act.put,sA,sZ,sS,i64_w,i32_w]
        rfl
       refine one_ (i:=10) (N:=some 39) #[tt,tt,tt,tt,tt,tt,tt,tt,tt,tt,tt,tt,tt,ff,ff,ff,ff,ff,ff,ff,ff,ff,ff,ff,ff,ff] rfl rfl (one_of HT_.out (by kernel_rfl)) (by decide) (fun K hK => ?_)
       refine goes_ Try.func35 (by kernel_rfl) rfl #[.agg #[.int .i64 a1_0,.int .i64 a1_1,.int .i64 a1_2,.int .i64 a1_3],.agg #[.int .i64 a2_0,.int .i64 a2_1,.int .i64 a2_2,.int .i64 a2_3]] (by rfl) rfl rfl (by (try simp only [List.map_toArray,List.map_cons,List.map_nil]);first|done|rfl|(simp only [List.length_drop,List.length_take];rfl)) ?_
       with_reducible refine (key_Covers.calls a1_0 a1_1 a1_2 a1_3 a2_0 a2_1 a2_2 a2_3 t409 _ A32.out).mono ?_
       rintro e w40 ⟨rfl,hb⟩
       refine ⟨_,rfl,?_⟩
       have n0_:=Kb BK400 hb
       have n1_:=Kb BK401 hb
       have n2_:=Kh HB hb
       clear BK400 BK401 HB
       have BK400:=n0_;have BK401:=n1_;have HB:=n2_
       clear n0_ n1_ n2_
       (try clear hb)
       (try clear hb2)
       (try clear hk)
       (try clear hi)
       refine hK.out _ _ ⟨(kC BK400.out 0).trans rfl,(kC BK400.out 1).trans rfl,(kC BK400.out 2).trans rfl,(kC BK400.out 3).trans rfl,(kC BK401.out 0).trans rfl,(kC BK401.out 1).trans rfl,(kC BK401.out 2).trans rfl,(kC BK401.out 3).trans rfl⟩ (fun hHeld => ?_)
       clear hK K
       refine norm_ (a':=?_) ?_ ?_
       rotate_left
       ·show Act.put _ (some 39) _ = _
        simp only [Act.put,sA,sZ,sS,i64_w,i32_w]
        rfl
       refine one_ (i:=13) (N:=some 42) #[tt,tt,tt,tt,tt,tt,tt,tt,tt,tt,tt,tt,tt,tt,ff,ff,ff,ff,ff,ff,ff,ff,ff,ff,ff,ff] rfl rfl (one_of HT_.out (by kernel_rfl)) (by decide) (fun K hK => ?_)
       refine goes_ Try.func45 (by kernel_rfl) rfl #[.agg #[.int .i64 a1_0,.int .i64 a1_1,.int .i64 a1_2,.int .i64 a1_3],.agg #[.int .i64 a2_0,.int .i64 a2_1,.int .i64 a2_2,.int .i64 a2_3]] (by rfl) rfl rfl (by (try simp only [List.map_toArray,List.map_cons,List.map_nil]);first|done|rfl|(simp only [List.length_drop,List.length_take];rfl)) ?_
       with_reducible refine (gazetteerref09_Covers.calls a1_0 a1_1 a1_2 a1_3 a2_0 a2_1 a2_2 a2_3 t410 _ A33.out).mono ?_
       rintro e w41 ⟨rfl,hb⟩
       refine ⟨_,rfl,?_⟩
       have n0_:=Kb BK400 hb
       have n1_:=Kb BK401 hb
       have n2_:=Kh HB hb
       clear BK400 BK401 HB
       have BK400:=n0_;have BK401:=n1_;have HB:=n2_
       clear n0_ n1_ n2_
       (try clear hb)
       (try clear hb2)
       (try clear hk)
       (try clear hi)
       refine hK.out _ _ ⟨(kC BK400.out 0).trans rfl,(kC BK400.out 1).trans rfl,(kC BK400.out 2).trans rfl,(kC BK400.out 3).trans rfl,(kC BK401.out 0).trans rfl,(kC BK401.out 1).trans rfl,(kC BK401.out 2).trans rfl,(kC BK401.out 3).trans rfl⟩ (fun hHeld => ?_)
       clear hK K
       refine norm_ (a':=?_) ?_ ?_
       rotate_left
       ·show Act.put _ (some 42) _ = _
        simp only [Act.put,sA,sZ,sS,i64_w,i32_w]
        rfl
       refine pure_ (i:=14) (N:=some 43) (v:=?_) (a':=?_) #[tt,tt,tt,tt,tt,tt,tt,tt,tt,tt,tt,tt,tt,tt,tt,ff,ff,ff,ff,ff,ff,ff,ff,ff,ff,ff] rfl rfl (any_of HT_.out (by kernel_rfl)) (fun _ _ _ h => h) (Or.inl ⟨by rfl,?_⟩) ?_ ?_
       rotate_left
       ·intro w'
        go_simp
        with_reducible rfl
       rotate_left
       ·simp only [Act.put,sA,sZ,sS,i64_w,i32_w]
        rfl
       refine pure_ (i:=15) (N:=some 44) (v:=?_) (a':=?_) #[tt,tt,tt,tt,tt,tt,tt,tt,tt,tt,tt,tt,tt,tt,tt,tt,ff,ff,ff,ff,ff,ff,ff,ff,ff,ff] rfl rfl (any_of HT_.out (by kernel_rfl)) (fun _ _ _ h => h) (Or.inl ⟨by rfl,?_⟩) ?_ ?_
       rotate_left
       ·intro w'
        go_simp
        with_reducible rfl
       rotate_left
       ·simp only [Act.put,sA,sZ,sS,i64_w,i32_w]
        rfl
       refine pure_ (i:=16) (N:=some 45) (v:=?_) (a':=?_) #[tt,tt,tt,tt,tt,tt,tt,tt,tt,tt,tt,tt,tt,tt,tt,tt,tt,ff,ff,ff,ff,ff,ff,ff,ff,ff] rfl rfl (any_of HT_.out (by kernel_rfl)) (fun _ _ _ h => h) (Or.inl ⟨by rfl,?_⟩) ?_ ?_
       rotate_left
       ·intro w'
        go_simp
        with_reducible rfl
       rotate_left
       ·simp only [Act.put,sA,sZ,sS,i64_w,i32_w]
        rfl
       refine take_ (i:=17) (N:=some 46) (v:=?_) (a':=?_) #[tt,tt,tt,tt,tt,tt,tt,tt,tt,tt,tt,tt,tt,tt,tt,tt,tt,tt,ff,ff,ff,ff,ff,ff,ff,ff] rfl rfl (take_ofW HT_.out HW_.out (by kernel_rfl)) (fun _ _ _ h => h) (Or.inl ⟨by rfl,?_⟩) hHeld ?_ ?_
       rotate_left
       ·rintro w' ⟨s0,s1,s2,s3,s4,s5,s6,s7⟩
        go_simp
        with_reducible rfl
       rotate_left
       ·simp only [Act.put,sA,sZ,sS,i64_w,i32_w]
        rfl
       refine take_ (i:=18) (N:=some 47) (v:=?_) (a':=?_) #[tt,tt,tt,tt,tt,tt,tt,tt,tt,tt,tt,tt,tt,tt,tt,tt,tt,tt,tt,ff,ff,ff,ff,ff,ff,ff] rfl rfl (take_ofW HT_.out HW_.out (by kernel_rfl)) (fun _ _ _ h => h) (Or.inl ⟨by rfl,?_⟩) hHeld ?_ ?_
       rotate_left
       ·rintro w' ⟨s0,s1,s2,s3,s4,s5,s6,s7⟩
        go_simp
        with_reducible rfl
       rotate_left
       ·simp only [Act.put,sA,sZ,sS,i64_w,i32_w]
        rfl
       refine take_ (i:=20) (N:=some 49) (v:=?_) (a':=?_) #[tt,tt,tt,tt,tt,tt,tt,tt,tt,tt,tt,tt,tt,tt,tt,tt,tt,tt,tt,ff,tt,ff,ff,ff,ff,ff] rfl rfl (take_ofW HT_.out HW_.out (by kernel_rfl)) (fun _ _ _ h => h) (Or.inl ⟨by rfl,?_⟩) hHeld ?_ ?_
       rotate_left
       ·rintro w' ⟨s0,s1,s2,s3,s4,s5,s6,s7⟩
        go_simp
        with_reducible rfl
       rotate_left
       ·simp only [Act.put,sA,sZ,sS,i64_w,i32_w]
        rfl
       refine take_ (i:=21) (N:=some 50) (v:=?_) (a':=?_) #[tt,tt,tt,tt,tt,tt,tt,tt,tt,tt,tt,tt,tt,tt,tt,tt,tt,tt,tt,ff,tt,tt,ff,ff,ff,ff] rfl rfl (take_ofW HT_.out HW_.out (by kernel_rfl)) (fun _ _ _ h => h) (Or.inl ⟨by rfl,?_⟩) hHeld ?_ ?_
       rotate_left
       ·rintro w' ⟨s0,s1,s2,s3,s4,s5,s6,s7⟩
        go_simp
        with_reducible rfl
       rotate_left
       ·simp only [Act.put,sA,sZ,sS,i64_w,i32_w]
        rfl
       refine one_ (i:=19) (N:=some 48) #[tt,tt,tt,tt,tt,tt,tt,tt,tt,tt,tt,tt,tt,tt,tt,tt,tt,tt,tt,tt,tt,tt,ff,ff,ff,ff] rfl rfl (one_of HT_.out (by kernel_rfl)) (by decide) (fun K hK => ?_)
       refine goes_ Try.func40 (by kernel_rfl) rfl #[.agg #[.int .i64 a1_0,.int .i64 a1_1,.int .i64 a1_2,.int .i64 a1_3],.agg #[.int .i64 a2_0,.int .i64 a2_1,.int .i64 a2_2,.int .i64 a2_3]] (by rfl) rfl rfl (by (try simp only [List.map_toArray,List.map_cons,List.map_nil]);first|done|rfl|(simp only [List.length_drop,List.length_take];rfl)) ?_
       with_reducible refine (key_Union.calls a1_0 a1_1 a1_2 a1_3 a2_0 a2_1 a2_2 a2_3 t411 t412 t413 t414 _ A35.out).mono ?_
       rintro e w42 ⟨rfl,hb⟩
       refine ⟨_,rfl,?_⟩
       have n0_:=Kb BK400 hb
       have n1_:=Kb BK401 hb
       have n2_:=Kh HB hb
       clear BK400 BK401 HB
       have BK400:=n0_;have BK401:=n1_;have HB:=n2_
       clear n0_ n1_ n2_
       (try clear hb)
       (try clear hb2)
       (try clear hk)
       (try clear hi)
       refine hK.out _ _ ⟨(kC BK400.out 0).trans rfl,(kC BK400.out 1).trans rfl,(kC BK400.out 2).trans rfl,(kC BK400.out 3).trans rfl,(kC BK401.out 0).trans rfl,(kC BK401.out 1).trans rfl,(kC BK401.out 2).trans rfl,(kC BK401.out 3).trans rfl⟩ (fun hHeld => ?_)
       clear hK K
       refine norm_ (a':=?_) ?_ ?_
       rotate_left
       ·show Act.put _ (some 48) _ = _
        simp only [Act.put,sA,sZ,sS,i64_w,i32_w]
        rfl
       refine one_ (i:=22) (N:=some 51) #[tt,tt,tt,tt,tt,tt,tt,tt,tt,tt,tt,tt,tt,tt,tt,tt,tt,tt,tt,tt,tt,tt,tt,ff,ff,ff] rfl rfl (one_of HT_.out (by kernel_rfl)) (by decide) (fun K hK => ?_)
       refine goes_ Try.func46 (by kernel_rfl) rfl #[.agg #[.int .i64 a1_0,.int .i64 a1_1,.int .i64 a1_2,.int .i64 a1_3],.agg #[.int .i64 a2_0,.int .i64 a2_1,.int .i64 a2_2,.int .i64 a2_3]] (by rfl) rfl rfl (by (try simp only [List.map_toArray,List.map_cons,List.map_nil]);first|done|rfl|(simp only [List.length_drop,List.length_take];rfl)) ?_
       with_reducible refine (gazetteerref09_Union.calls kj5 a1_0 a1_1 a1_2 a1_3 a2_0 a2_1 a2_2 a2_3 t415 t416 t417 t418 _ A36.out).mono ?_
       rintro e w43 ⟨rfl,hb⟩
       refine ⟨_,rfl,?_⟩
       have n0_:=Kb BK400 hb
       have n1_:=Kb BK401 hb
       have n2_:=Kh HB hb
       clear BK400 BK401 HB
       have BK400:=n0_;have BK401:=n1_;have HB:=n2_
       clear n0_ n1_ n2_
       (try clear hb)
       (try clear hb2)
       (try clear hk)
       (try clear hi)
       refine hK.out _ _ ⟨(kC BK400.out 0).trans rfl,(kC BK400.out 1).trans rfl,(kC BK400.out 2).trans rfl,(kC BK400.out 3).trans rfl,(kC BK401.out 0).trans rfl,(kC BK401.out 1).trans rfl,(kC BK401.out 2).trans rfl,(kC BK401.out 3).trans rfl⟩ (fun hHeld => ?_)
       clear hK K
       refine norm_ (a':=?_) ?_ ?_
       rotate_left
       ·show Act.put _ (some 51) _ = _
        simp only [Act.put,sA,sZ,sS,i64_w,i32_w]
        rfl
       refine pure_ (i:=23) (N:=some 52) (v:=?_) (a':=?_) #[tt,tt,tt,tt,tt,tt,tt,tt,tt,tt,tt,tt,tt,tt,tt,tt,tt,tt,tt,tt,tt,tt,tt,tt,ff,ff] rfl rfl (any_of HT_.out (by kernel_rfl)) (fun _ _ _ h => h) (Or.inl ⟨by rfl,?_⟩) ?_ ?_
       rotate_left
       ·intro w'
        go_simp
        with_reducible rfl
       rotate_left
       ·simp only [Act.put,sA,sZ,sS,i64_w,i32_w]
        rfl
       refine pure_ (i:=24) (N:=some 53) (v:=?_) (a':=?_) #[tt,tt,tt,tt,tt,tt,tt,tt,tt,tt,tt,tt,tt,tt,tt,tt,tt,tt,tt,tt,tt,tt,tt,tt,tt,ff] rfl rfl (any_of HT_.out (by kernel_rfl)) (fun _ _ _ h => h) (Or.inl ⟨by rfl,?_⟩) ?_ ?_
       rotate_left
       ·intro w'
        go_simp
        with_reducible rfl
       rotate_left
       ·simp only [Act.put,sA,sZ,sS,i64_w,i32_w]
        rfl
       refine pure_ (i:=25) (N:=some 6) (v:=?_) (a':=?_) #[tt,tt,tt,tt,tt,tt,tt,tt,tt,tt,tt,tt,tt,tt,tt,tt,tt,tt,tt,tt,tt,tt,tt,tt,tt,tt] rfl rfl (any_of HT_.out (by kernel_rfl)) (fun _ _ _ h => h) (Or.inl ⟨by rfl,?_⟩) ?_ ?_
       rotate_left
       ·intro w'
        go_simp
        with_reducible rfl
       rotate_left
       ·simp only [Act.put,sA,sZ,sS,i64_w,i32_w]
        rfl
       refine done_ (done_of HT_.out (by kernel_rfl)) ?_
       try go_wp2
       go_ret
       exact ⟨by first|rfl|(simp [errW_none,errW_some] <;> rfl)|(simp [*,errW_none,errW_some] <;> rfl),by repeat (first|(with_reducible first|exact HB.out|apply bA|apply bN|apply bD|refine bS ?_ GE400.out|refine bS ?_ GE401.out)|exact HB.out)⟩
      ·rw [if_neg c34] at H
       have c34b0 : (t409 == t410) = false:=by simpa using c34
       (try (have c34b1 : decide (t409 = t410) = false:=by simpa using c34))
       (try (have c34b2 : (t409 == t410) = false:=by simpa using c34))
       (try (have c34b3 : ¬ (t409 = t410):=by simpa using c34))
       clear c34
       obtain rfl:=Option.some.inj H
       try go_wp2
       have n0_:=Ak (kD BK400.out)
       have n1_:=Ak (kD BK401.out)
       have n2_:=Ak (bD HB.out)
       clear BK400 BK401 HB
       have BK400:=n0_;have BK401:=n1_;have HB:=n2_
       clear n0_ n1_ n2_
       refine start_ (n:=26) (S:=fun w' => w'.cell? ⟨gb400,0,none⟩ = some (.int .i64 a1_0)∧w'.cell? ⟨gb400,1,none⟩ = some (.int .i64 a1_1)∧w'.cell? ⟨gb400,2,none⟩ = some (.int .i64 a1_2)∧w'.cell? ⟨gb400,3,none⟩ = some (.int .i64 a1_3)∧w'.cell? ⟨gb401,0,none⟩ = some (.int .i64 a2_0)∧w'.cell? ⟨gb401,1,none⟩ = some (.int .i64 a2_1)∧w'.cell? ⟨gb401,2,none⟩ = some (.int .i64 a2_2)∧w'.cell? ⟨gb401,3,none⟩ = some (.int .i64 a2_3)) (ds:=[]) #[ff,ff,ff,ff,ff,ff,ff,ff,ff,ff,ff,ff,ff,ff,ff,ff,ff,ff,ff,ff,ff,ff,ff,ff,ff,ff] (by kernel_rfl) rfl rfl ⟨(kC BK400.out 0).trans rfl,(kC BK400.out 1).trans rfl,(kC BK400.out 2).trans rfl,(kC BK400.out 3).trans rfl,(kC BK401.out 0).trans rfl,(kC BK401.out 1).trans rfl,(kC BK401.out 2).trans rfl,(kC BK401.out 3).trans rfl⟩ (fun hHeld => ?_);refine with_tabW gazetteerlaw09_KeyTells.tab5 gazetteerlaw09_KeyTells.bits5 (fun HT_ HW_ => ?_)
       generalize wc.drew = w44 at BK400 BK401 HB hHeld ⊢
       refine take_ (i:=0) (N:=some 29) (v:=?_) (a':=?_) #[tt,ff,ff,ff,ff,ff,ff,ff,ff,ff,ff,ff,ff,ff,ff,ff,ff,ff,ff,ff,ff,ff,ff,ff,ff,ff] rfl rfl (take_ofW HT_.out HW_.out (by kernel_rfl)) (fun _ _ _ h => h) (Or.inl ⟨by rfl,?_⟩) hHeld ?_ ?_
       rotate_left
       ·rintro w' ⟨s0,s1,s2,s3,s4,s5,s6,s7⟩
        go_simp
        with_reducible rfl
       rotate_left
       ·simp only [Act.put,sA,sZ,sS,i64_w,i32_w]
        rfl
       refine take_ (i:=1) (N:=some 30) (v:=?_) (a':=?_) #[tt,tt,ff,ff,ff,ff,ff,ff,ff,ff,ff,ff,ff,ff,ff,ff,ff,ff,ff,ff,ff,ff,ff,ff,ff,ff] rfl rfl (take_ofW HT_.out HW_.out (by kernel_rfl)) (fun _ _ _ h => h) (Or.inl ⟨by rfl,?_⟩) hHeld ?_ ?_
       rotate_left
       ·rintro w' ⟨s0,s1,s2,s3,s4,s5,s6,s7⟩
        go_simp
        with_reducible rfl
       rotate_left
       ·simp only [Act.put,sA,sZ,sS,i64_w,i32_w]
        rfl
       refine take_ (i:=3) (N:=some 32) (v:=?_) (a':=?_) #[tt,tt,ff,tt,ff,ff,ff,ff,ff,ff,ff,ff,ff,ff,ff,ff,ff,ff,ff,ff,ff,ff,ff,ff,ff,ff] rfl rfl (take_ofW HT_.out HW_.out (by kernel_rfl)) (fun _ _ _ h => h) (Or.inl ⟨by rfl,?_⟩) hHeld ?_ ?_
       rotate_left
       ·rintro w' ⟨s0,s1,s2,s3,s4,s5,s6,s7⟩
        go_simp
        with_reducible rfl
       rotate_left
       ·simp only [Act.put,sA,sZ,sS,i64_w,i32_w]
        rfl
       refine take_ (i:=4) (N:=some 33) (v:=?_) (a':=?_) #[tt,tt,ff,tt,tt,ff,ff,ff,ff,ff,ff,ff,ff,ff,ff,ff,ff,ff,ff,ff,ff,ff,ff,ff,ff,ff] rfl rfl (take_ofW HT_.out HW_.out (by kernel_rfl)) (fun _ _ _ h => h) (Or.inl ⟨by rfl,?_⟩) hHeld ?_ ?_
       rotate_left
       ·rintro w' ⟨s0,s1,s2,s3,s4,s5,s6,s7⟩
        go_simp
        with_reducible rfl
       rotate_left
       ·simp only [Act.put,sA,sZ,sS,i64_w,i32_w]
        rfl
       refine one_ (i:=2) (N:=some 31) #[tt,tt,tt,tt,tt,ff,ff,ff,ff,ff,ff,ff,ff,ff,ff,ff,ff,ff,ff,ff,ff,ff,ff,ff,ff,ff] rfl rfl (one_of HT_.out (by kernel_rfl)) (by decide) (fun K hK => ?_)
       refine goes_ Try.func34 (by kernel_rfl) rfl #[.agg #[.int .i64 a1_0,.int .i64 a1_1,.int .i64 a1_2,.int .i64 a1_3],.agg #[.int .i64 a2_0,.int .i64 a2_1,.int .i64 a2_2,.int .i64 a2_3]] (by rfl) rfl rfl (by (try simp only [List.map_toArray,List.map_cons,List.map_nil]);first|done|rfl|(simp only [List.length_drop,List.length_take];rfl)) ?_
       with_reducible refine (key_Meets.calls a1_0 a1_1 a1_2 a1_3 a2_0 a2_1 a2_2 a2_3 t407 _ A29.out).mono ?_
       rintro e w45 ⟨rfl,hb⟩
       refine ⟨_,rfl,?_⟩
       have n0_:=Kb BK400 hb
       have n1_:=Kb BK401 hb
       have n2_:=Kh HB hb
       clear BK400 BK401 HB
       have BK400:=n0_;have BK401:=n1_;have HB:=n2_
       clear n0_ n1_ n2_
       (try clear hb)
       (try clear hb2)
       (try clear hk)
       (try clear hi)
       refine hK.out _ _ ⟨(kC BK400.out 0).trans rfl,(kC BK400.out 1).trans rfl,(kC BK400.out 2).trans rfl,(kC BK400.out 3).trans rfl,(kC BK401.out 0).trans rfl,(kC BK401.out 1).trans rfl,(kC BK401.out 2).trans rfl,(kC BK401.out 3).trans rfl⟩ (fun hHeld => ?_)
       clear hK K
       refine norm_ (a':=?_) ?_ ?_
       rotate_left
       ·show Act.put _ (some 31) _ = _
        simp only [Act.put,sA,sZ,sS,i64_w,i32_w]
        rfl
       refine one_ (i:=5) (N:=some 34) #[tt,tt,tt,tt,tt,tt,ff,ff,ff,ff,ff,ff,ff,ff,ff,ff,ff,ff,ff,ff,ff,ff,ff,ff,ff,ff] rfl rfl (one_of HT_.out (by kernel_rfl)) (by decide) (fun K hK => ?_)
       refine goes_ Try.func44 (by kernel_rfl) rfl #[.agg #[.int .i64 a1_0,.int .i64 a1_1,.int .i64 a1_2,.int .i64 a1_3],.agg #[.int .i64 a2_0,.int .i64 a2_1,.int .i64 a2_2,.int .i64 a2_3]] (by rfl) rfl rfl (by (try simp only [List.map_toArray,List.map_cons,List.map_nil]);first|done|rfl|(simp only [List.length_drop,List.length_take];rfl)) ?_
       with_reducible refine (gazetteerref09_Meets.calls kj5 a1_0 a1_1 a1_2 a1_3 a2_0 a2_1 a2_2 a2_3 t408 _ A30.out).mono ?_
       rintro e w46 ⟨rfl,hb⟩
       refine ⟨_,rfl,?_⟩
       have n0_:=Kb BK400 hb
       have n1_:=Kb BK401 hb
       have n2_:=Kh HB hb
       clear BK400 BK401 HB
       have BK400:=n0_;have BK401:=n1_;have HB:=n2_
       clear n0_ n1_ n2_
       (try clear hb)
       (try clear hb2)
       (try clear hk)
       (try clear hi)
       refine hK.out _ _ ⟨(kC BK400.out 0).trans rfl,(kC BK400.out 1).trans rfl,(kC BK400.out 2).trans rfl,(kC BK400.out 3).trans rfl,(kC BK401.out 0).trans rfl,(kC BK401.out 1).trans rfl,(kC BK401.out 2).trans rfl,(kC BK401.out 3).trans rfl⟩ (fun hHeld => ?_)
       clear hK K
       refine norm_ (a':=?_) ?_ ?_
       rotate_left
       ·show Act.put _ (some 34) _ = _
        simp only [Act.put,sA,sZ,sS,i64_w,i32_w]
        rfl
       refine pure_ (i:=6) (N:=some 35) (v:=?_) (a':=?_) #[tt,tt,tt,tt,tt,tt,tt,ff,ff,ff,ff,ff,ff,ff,ff,ff,ff,ff,ff,ff,ff,ff,ff,ff,ff,ff] rfl rfl (any_of HT_.out (by kernel_rfl)) (fun _ _ _ h => h) (Or.inl ⟨by rfl,?_⟩) ?_ ?_
       rotate_left
       ·intro w'
        go_simp
        with_reducible rfl
       rotate_left
       ·simp only [Act.put,sA,sZ,sS,i64_w,i32_w]
        rfl
       refine pure_ (i:=7) (N:=some 36) (v:=?_) (a':=?_) #[tt,tt,tt,tt,tt,tt,tt,tt,ff,ff,ff,ff,ff,ff,ff,ff,ff,ff,ff,ff,ff,ff,ff,ff,ff,ff] rfl rfl (any_of HT_.out (by kernel_rfl)) (fun _ _ _ h => h) (Or.inl ⟨by rfl,?_⟩) ?_ ?_
       rotate_left
       ·intro w'
        go_simp
        with_reducible rfl
       rotate_left
       ·simp only [Act.put,sA,sZ,sS,i64_w,i32_w]
        rfl
       refine take_ (i:=8) (N:=some 37) (v:=?_) (a':=?_) #[tt,tt,tt,tt,tt,tt,tt,tt,tt,ff,ff,ff,ff,ff,ff,ff,ff,ff,ff,ff,ff,ff,ff,ff,ff,ff] rfl rfl (take_ofW HT_.out HW_.out (by kernel_rfl)) (fun _ _ _ h => h) (Or.inl ⟨by rfl,?_⟩) hHeld ?_ ?_
       rotate_left
       ·rintro w' ⟨s0,s1,s2,s3,s4,s5,s6,s7⟩
        go_simp
        with_reducible rfl
       rotate_left
       ·simp only [Act.put,sA,sZ,sS,i64_w,i32_w]
        rfl
       refine take_ (i:=9) (N:=some 38) (v:=?_) (a':=?_) #[tt,tt,tt,tt,tt,tt,tt,tt,tt,tt,ff,ff,ff,ff,ff,ff,ff,ff,ff,ff,ff,ff,ff,ff,ff,ff] rfl rfl (take_ofW HT_.out HW_.out (by kernel_rfl)) (fun _ _ _ h => h) (Or.inl ⟨by rfl,?_⟩) hHeld ?_ ?_
       rotate_left
       ·rintro w' ⟨s0,s1,s2,s3,s4,s5,s6,s7⟩
        go_simp
        with_reducible rfl
       rotate_left
       ·simp only [Act.put,sA,sZ,sS,i64_w,i32_w]
        rfl
       refine take_ (i:=11) (N:=some 40) (v:=?_) (a':=?_) #[tt,tt,tt,tt,tt,tt,tt,tt,tt,tt,ff,tt,ff,ff,ff,ff,ff,ff,ff,ff,ff,ff,ff,ff,ff,ff] rfl rfl (take_ofW HT_.out HW_.out (by kernel_rfl)) (fun _ _ _ h => h) (Or.inl ⟨by rfl,?_⟩) hHeld ?_ ?_
       rotate_left
       ·rintro w' ⟨s0,s1,s2,s3,s4,s5,s6,s7⟩
        go_simp
        with_reducible rfl
       rotate_left
       ·simp only [Act.put,sA,sZ,sS,i64_w,i32_w]
        rfl
       refine take_ (i:=12) (N:=some 41) (v:=?_) (a':=?_) #[tt,tt,tt,tt,tt,tt,tt,tt,tt,tt,ff,tt,tt,ff,ff,ff,ff,ff,ff,ff,ff,ff,ff,ff,ff,ff] rfl rfl (take_ofW HT_.out HW_.out (by kernel_rfl)) (fun _ _ _ h => h) (Or.inl ⟨by rfl,?_⟩) hHeld ?_ ?_
       rotate_left
       ·rintro w' ⟨s0,s1,s2,s3,s4,s5,s6,s7⟩
        go_simp
        with_reducible rfl
       rotate_left
       ·simp only [Act.put,sA,sZ,sS,i64_w,i32_w]
        rfl
       refine one_ (i:=10) (N:=some 39) #[tt,tt,tt,tt,tt,tt,tt,tt,tt,tt,tt,tt,tt,ff,ff,ff,ff,ff,ff,ff,ff,ff,ff,ff,ff,ff] rfl rfl (one_of HT_.out (by kernel_rfl)) (by decide) (fun K hK => ?_)
       refine goes_ Try.func35 (by kernel_rfl) rfl #[.agg #[.int .i64 a1_0,.int .i64 a1_1,.int .i64 a1_2,.int .i64 a1_3],.agg #[.int .i64 a2_0,.int .i64 a2_1,.int .i64 a2_2,.int .i64 a2_3]] (by rfl) rfl rfl (by (try simp only [List.map_toArray,List.map_cons,List.map_nil]);first|done|rfl|(simp only [List.length_drop,List.length_take];rfl)) ?_
       with_reducible refine (key_Covers.calls a1_0 a1_1 a1_2 a1_3 a2_0 a2_1 a2_2 a2_3 t409 _ A32.out).mono ?_
       rintro e w47 ⟨rfl,hb⟩
       refine ⟨_,rfl,?_⟩
       have n0_:=Kb BK400 hb
       have n1_:=Kb BK401 hb
       have n2_:=Kh HB hb
       clear BK400 BK401 HB
       have BK400:=n0_;have BK401:=n1_;have HB:=n2_
       clear n0_ n1_ n2_
       (try clear hb)
       (try clear hb2)
       (try clear hk)
       (try clear hi)
       refine hK.out _ _ ⟨(kC BK400.out 0).trans rfl,(kC BK400.out 1).trans rfl,(kC BK400.out 2).trans rfl,(kC BK400.out 3).trans rfl,(kC BK401.out 0).trans rfl,(kC BK401.out 1).trans rfl,(kC BK401.out 2).trans rfl,(kC BK401.out 3).trans rfl⟩ (fun hHeld => ?_)
       clear hK K
       refine norm_ (a':=?_) ?_ ?_
       rotate_left
       ·show Act.put _ (some 39) _ = _
        simp only [Act.put,sA,sZ,sS,i64_w,i32_w]
        rfl
       refine one_ (i:=13) (N:=some 42) #[tt,tt,tt,tt,tt,tt,tt,tt,tt,tt,tt,tt,tt,tt,ff,ff,ff,ff,ff,ff,ff,ff,ff,ff,ff,ff] rfl rfl (one_of HT_.out (by kernel_rfl)) (by decide) (fun K hK => ?_)
       refine goes_ Try.func45 (by kernel_rfl) rfl #[.agg #[.int .i64 a1_0,.int .i64 a1_1,.int .i64 a1_2,.int .i64 a1_3],.agg #[.int .i64 a2_0,.int .i64 a2_1,.int .i64 a2_2,.int .i64 a2_3]] (by rfl) rfl rfl (by (try simp only [List.map_toArray,List.map_cons,List.map_nil]);first|done|rfl|(simp only [List.length_drop,List.length_take];rfl)) ?_
       with_reducible refine (gazetteerref09_Covers.calls a1_0 a1_1 a1_2 a1_3 a2_0 a2_1 a2_2 a2_3 t410 _ A33.out).mono ?_
       rintro e w48 ⟨rfl,hb⟩
       refine ⟨_,rfl,?_⟩
       have n0_:=Kb BK400 hb
       have n1_:=Kb BK401 hb
       have n2_:=Kh HB hb
       clear BK400 BK401 HB
       have BK400:=n0_;have BK401:=n1_;have HB:=n2_
       clear n0_ n1_ n2_
       (try clear hb)
       (try clear hb2)
       (try clear hk)
       (try clear hi)
       refine hK.out _ _ ⟨(kC BK400.out 0).trans rfl,(kC BK400.out 1).trans rfl,(kC BK400.out 2).trans rfl,(kC BK400.out 3).trans rfl,(kC BK401.out 0).trans rfl,(kC BK401.out 1).trans rfl,(kC BK401.out 2).trans rfl,(kC BK401.out 3).trans rfl⟩ (fun hHeld => ?_)
       clear hK K
       refine norm_ (a':=?_) ?_ ?_
       rotate_left
       ·show Act.put _ (some 42) _ = _
        simp only [Act.put,sA,sZ,sS,i64_w,i32_w]
        rfl
       refine pure_ (i:=14) (N:=some 43) (v:=?_) (a':=?_) #[tt,tt,tt,tt,tt,tt,tt,tt,tt,tt,tt,tt,tt,tt,tt,ff,ff,ff,ff,ff,ff,ff,ff,ff,ff,ff] rfl rfl (any_of HT_.out (by kernel_rfl)) (fun _ _ _ h => h) (Or.inl ⟨by rfl,?_⟩) ?_ ?_
       rotate_left
       ·intro w'
        go_simp
        with_reducible rfl
       rotate_left
       ·simp only [Act.put,sA,sZ,sS,i64_w,i32_w]
        rfl
       refine pure_ (i:=15) (N:=some 44) (v:=?_) (a':=?_) #[tt,tt,tt,tt,tt,tt,tt,tt,tt,tt,tt,tt,tt,tt,tt,tt,ff,ff,ff,ff,ff,ff,ff,ff,ff,ff] rfl rfl (any_of HT_.out (by kernel_rfl)) (fun _ _ _ h => h) (Or.inl ⟨by rfl,?_⟩) ?_ ?_
       rotate_left
       ·intro w'
        go_simp
        with_reducible rfl
       rotate_left
       ·simp only [Act.put,sA,sZ,sS,i64_w,i32_w]
        rfl
       refine pure_ (i:=16) (N:=some 45) (v:=?_) (a':=?_) #[tt,tt,tt,tt,tt,tt,tt,tt,tt,tt,tt,tt,tt,tt,tt,tt,tt,ff,ff,ff,ff,ff,ff,ff,ff,ff] rfl rfl (any_of HT_.out (by kernel_rfl)) (fun _ _ _ h => h) (Or.inl ⟨by rfl,?_⟩) ?_ ?_
       rotate_left
       ·intro w'
        go_simp
        with_reducible rfl
       rotate_left
       ·simp only [Act.put,sA,sZ,sS,i64_w,i32_w]
        rfl
       refine pure_ (i:=17) (N:=some 46) (v:=undef) (a':=?_) #[tt,tt,tt,tt,tt,tt,tt,tt,tt,tt,tt,tt,tt,tt,tt,tt,tt,tt,ff,ff,ff,ff,ff,ff,ff,ff] rfl rfl (any_of HT_.out (by kernel_rfl)) (fun _ _ _ h => h) (Or.inr ⟨by rfl,rfl⟩) ?_ ?_
       rotate_left
       ·simp only [Act.put,sA,sZ,sS,i64_w,i32_w]
        rfl
       refine pure_ (i:=18) (N:=some 47) (v:=undef) (a':=?_) #[tt,tt,tt,tt,tt,tt,tt,tt,tt,tt,tt,tt,tt,tt,tt,tt,tt,tt,tt,ff,ff,ff,ff,ff,ff,ff] rfl rfl (any_of HT_.out (by kernel_rfl)) (fun _ _ _ h => h) (Or.inr ⟨by rfl,rfl⟩) ?_ ?_
       rotate_left
       ·simp only [Act.put,sA,sZ,sS,i64_w,i32_w]
        rfl
       refine pure_ (i:=19) (N:=some 48) (v:=undef) (a':=?_) #[tt,tt,tt,tt,tt,tt,tt,tt,tt,tt,tt,tt,tt,tt,tt,tt,tt,tt,tt,tt,ff,ff,ff,ff,ff,ff] rfl rfl (any_of HT_.out (by kernel_rfl)) (fun _ _ _ h => h) (Or.inr ⟨by rfl,rfl⟩) ?_ ?_
       rotate_left
       ·simp only [Act.put,sA,sZ,sS,i64_w,i32_w]
        rfl
       refine pure_ (i:=20) (N:=some 49) (v:=undef) (a':=?_) #[tt,tt,tt,tt,tt,tt,tt,tt,tt,tt,tt,tt,tt,tt,tt,tt,tt,tt,tt,tt,tt,ff,ff,ff,ff,ff] rfl rfl (any_of HT_.out (by kernel_rfl)) (fun _ _ _ h => h) (Or.inr ⟨by rfl,rfl⟩) ?_ ?_
       rotate_left
       ·simp only [Act.put,sA,sZ,sS,i64_w,i32_w]
        rfl
       refine pure_ (i:=21) (N:=some 50) (v:=undef) (a':=?_) #[tt,tt,tt,tt,tt,tt,tt,tt,tt,tt,tt,tt,tt,tt,tt,tt,tt,tt,tt,tt,tt,tt,ff,ff,ff,ff] rfl rfl (any_of HT_.out (by kernel_rfl)) (fun _ _ _ h => h) (Or.inr ⟨by rfl,rfl⟩) ?_ ?_
       rotate_left
       ·simp only [Act.put,sA,sZ,sS,i64_w,i32_w]
        rfl
       refine pure_ (i:=22) (N:=some 51) (v:=undef) (a':=?_) #[tt,tt,tt,tt,tt,tt,tt,tt,tt,tt,tt,tt,tt,tt,tt,tt,tt,tt,tt,tt,tt,tt,tt,ff,ff,ff] rfl rfl (any_of HT_.out (by kernel_rfl)) (fun _ _ _ h => h) (Or.inr ⟨by rfl,rfl⟩) ?_ ?_
       rotate_left
       ·simp only [Act.put,sA,sZ,sS,i64_w,i32_w]
        rfl
       refine pure_ (i:=23) (N:=some 52) (v:=undef) (a':=?_) #[tt,tt,tt,tt,tt,tt,tt,tt,tt,tt,tt,tt,tt,tt,tt,tt,tt,tt,tt,tt,tt,tt,tt,tt,ff,ff] rfl rfl (any_of HT_.out (by kernel_rfl)) (fun _ _ _ h => h) (Or.inr ⟨by rfl,rfl⟩) ?_ ?_
       rotate_left
       ·simp only [Act.put,sA,sZ,sS,i64_w,i32_w]
        rfl
       refine pure_ (i:=24) (N:=some 53) (v:=?_) (a':=?_) #[tt,tt,tt,tt,tt,tt,tt,tt,tt,tt,tt,tt,tt,tt,tt,tt,tt,tt,tt,tt,tt,tt,tt,tt,tt,ff] rfl rfl (any_of HT_.out (by kernel_rfl)) (fun _ _ _ h => h) (Or.inl ⟨by rfl,?_⟩) ?_ ?_
       rotate_left
       ·intro w'
        go_simp
        with_reducible rfl
       rotate_left
       ·simp only [Act.put,sA,sZ,sS,i64_w,i32_w]
        rfl
       refine pure_ (i:=25) (N:=some 6) (v:=?_) (a':=?_) #[tt,tt,tt,tt,tt,tt,tt,tt,tt,tt,tt,tt,tt,tt,tt,tt,tt,tt,tt,tt,tt,tt,tt,tt,tt,tt] rfl rfl (any_of HT_.out (by kernel_rfl)) (fun _ _ _ h => h) (Or.inl ⟨by rfl,?_⟩) ?_ ?_
       rotate_left
       ·intro w'
        go_simp
        with_reducible rfl
       rotate_left
       ·simp only [Act.put,sA,sZ,sS,i64_w,i32_w]
        rfl
       refine done_ (done_of HT_.out (by kernel_rfl)) ?_
       try go_wp2
       go_ret
       exact ⟨by first|rfl|(simp [errW_none,errW_some] <;> rfl)|(simp [*,errW_none,errW_some] <;> rfl),by repeat (first|(with_reducible first|exact HB.out|apply bA|apply bN|apply bD|refine bS ?_ GE400.out|refine bS ?_ GE401.out)|exact HB.out)⟩
     ·rw [if_neg c31] at H
      have c31b0 : (t407 == t408) = false:=by simpa using c31
      (try (have c31b1 : decide (t407 = t408) = false:=by simpa using c31))
      (try (have c31b2 : (t407 == t408) = false:=by simpa using c31))
      (try (have c31b3 : ¬ (t407 = t408):=by simpa using c31))
      clear c31
      obtain rfl:=Option.some.inj H
      try go_wp2
      have n0_:=Ak (kD BK400.out)
      have n1_:=Ak (kD BK401.out)
      have n2_:=Ak (bD HB.out)
      clear BK400 BK401 HB
      have BK400:=n0_;have BK401:=n1_;have HB:=n2_
      clear n0_ n1_ n2_
      refine start_ (n:=26) (S:=fun w' => w'.cell? ⟨gb400,0,none⟩ = some (.int .i64 a1_0)∧w'.cell? ⟨gb400,1,none⟩ = some (.int .i64 a1_1)∧w'.cell? ⟨gb400,2,none⟩ = some (.int .i64 a1_2)∧w'.cell? ⟨gb400,3,none⟩ = some (.int .i64 a1_3)∧w'.cell? ⟨gb401,0,none⟩ = some (.int .i64 a2_0)∧w'.cell? ⟨gb401,1,none⟩ = some (.int .i64 a2_1)∧w'.cell? ⟨gb401,2,none⟩ = some (.int .i64 a2_2)∧w'.cell? ⟨gb401,3,none⟩ = some (.int .i64 a2_3)) (ds:=[]) #[ff,ff,ff,ff,ff,ff,ff,ff,ff,ff,ff,ff,ff,ff,ff,ff,ff,ff,ff,ff,ff,ff,ff,ff,ff,ff] (by kernel_rfl) rfl rfl ⟨(kC BK400.out 0).trans rfl,(kC BK400.out 1).trans rfl,(kC BK400.out 2).trans rfl,(kC BK400.out 3).trans rfl,(kC BK401.out 0).trans rfl,(kC BK401.out 1).trans rfl,(kC BK401.out 2).trans rfl,(kC BK401.out 3).trans rfl⟩ (fun hHeld => ?_);refine with_tabW gazetteerlaw09_KeyTells.tab5 gazetteerlaw09_KeyTells.bits5 (fun HT_ HW_ => ?_)
      generalize wc.drew = w49 at BK400 BK401 HB hHeld ⊢
      refine take_ (i:=0) (N:=some 29) (v:=?_) (a':=?_) #[tt,ff,ff,ff,ff,ff,ff,ff,ff,ff,ff,ff,ff,ff,ff,ff,ff,ff,ff,ff,ff,ff,ff,ff,ff,ff] rfl rfl (take_ofW HT_.out HW_.out (by kernel_rfl)) (fun _ _ _ h => h) (Or.inl ⟨by rfl,?_⟩) hHeld ?_ ?_
      rotate_left
      ·rintro w' ⟨s0,s1,s2,s3,s4,s5,s6,s7⟩
       go_simp
       with_reducible rfl
      rotate_left
      ·simp only [Act.put,sA,sZ,sS,i64_w,i32_w]
       rfl
      refine take_ (i:=1) (N:=some 30) (v:=?_) (a':=?_) #[tt,tt,ff,ff,ff,ff,ff,ff,ff,ff,ff,ff,ff,ff,ff,ff,ff,ff,ff,ff,ff,ff,ff,ff,ff,ff] rfl rfl (take_ofW HT_.out HW_.out (by kernel_rfl)) (fun _ _ _ h => h) (Or.inl ⟨by rfl,?_⟩) hHeld ?_ ?_
      rotate_left
      ·rintro w' ⟨s0,s1,s2,s3,s4,s5,s6,s7⟩
       go_simp
       with_reducible rfl
      rotate_left
      ·simp only [Act.put,sA,sZ,sS,i64_w,i32_w]
       rfl
      refine take_ (i:=3) (N:=some 32) (v:=?_) (a':=?_) #[tt,tt,ff,tt,ff,ff,ff,ff,ff,ff,ff,ff,ff,ff,ff,ff,ff,ff,ff,ff,ff,ff,ff,ff,ff,ff] rfl rfl (take_ofW HT_.out HW_.out (by kernel_rfl)) (fun _ _ _ h => h) (Or.inl ⟨by rfl,?_⟩) hHeld ?_ ?_
      rotate_left
      ·rintro w' ⟨s0,s1,s2,s3,s4,s5,s6,s7⟩
       go_simp
       with_reducible rfl
      rotate_left
      ·simp only [Act.put,sA,sZ,sS,i64_w,i32_w]
       rfl
      refine take_ (i:=4) (N:=some 33) (v:=?_) (a':=?_) #[tt,tt,ff,tt,tt,ff,ff,ff,ff,ff,ff,ff,ff,ff,ff,ff,ff,ff,ff,ff,ff,ff,ff,ff,ff,ff] rfl rfl (take_ofW HT_.out HW_.out (by kernel_rfl)) (fun _ _ _ h => h) (Or.inl ⟨by rfl,?_⟩) hHeld ?_ ?_
      rotate_left
      ·rintro w' ⟨s0,s1,s2,s3,s4,s5,s6,s7⟩
       go_simp
       with_reducible rfl
      rotate_left
      ·simp only [Act.put,sA,sZ,sS,i64_w,i32_w]
       rfl
      refine one_ (i:=2) (N:=some 31) #[tt,tt,tt,tt,tt,ff,ff,ff,ff,ff,ff,ff,ff,ff,ff,ff,ff,ff,ff,ff,ff,ff,ff,ff,ff,ff] rfl rfl (one_of HT_.out (by kernel_rfl)) (by decide) (fun K hK => ?_)
      refine goes_ Try.func34 (by kernel_rfl) rfl #[.agg #[.int .i64 a1_0,.int .i64 a1_1,.int .i64 a1_2,.int .i64 a1_3],.agg #[.int .i64 a2_0,.int .i64 a2_1,.int .i64 a2_2,.int .i64 a2_3]] (by rfl) rfl rfl (by (try simp only [List.map_toArray,List.map_cons,List.map_nil]);first|done|rfl|(simp only [List.length_drop,List.length_take];rfl)) ?_
      with_reducible refine (key_Meets.calls a1_0 a1_1 a1_2 a1_3 a2_0 a2_1 a2_2 a2_3 t407 _ A29.out).mono ?_
      rintro e w50 ⟨rfl,hb⟩
      refine ⟨_,rfl,?_⟩
      have n0_:=Kb BK400 hb
      have n1_:=Kb BK401 hb
      have n2_:=Kh HB hb
      clear BK400 BK401 HB
      have BK400:=n0_;have BK401:=n1_;have HB:=n2_
      clear n0_ n1_ n2_
      (try clear hb)
      (try clear hb2)
      (try clear hk)
      (try clear hi)
      refine hK.out _ _ ⟨(kC BK400.out 0).trans rfl,(kC BK400.out 1).trans rfl,(kC BK400.out 2).trans rfl,(kC BK400.out 3).trans rfl,(kC BK401.out 0).trans rfl,(kC BK401.out 1).trans rfl,(kC BK401.out 2).trans rfl,(kC BK401.out 3).trans rfl⟩ (fun hHeld => ?_)
      clear hK K
      refine norm_ (a':=?_) ?_ ?_
      rotate_left
      ·show Act.put _ (some 31) _ = _
       simp only [Act.put,sA,sZ,sS,i64_w,i32_w]
       rfl
      refine one_ (i:=5) (N:=some 34) #[tt,tt,tt,tt,tt,tt,ff,ff,ff,ff,ff,ff,ff,ff,ff,ff,ff,ff,ff,ff,ff,ff,ff,ff,ff,ff] rfl rfl (one_of HT_.out (by kernel_rfl)) (by decide) (fun K hK => ?_)
      refine goes_ Try.func44 (by kernel_rfl) rfl #[.agg #[.int .i64 a1_0,.int .i64 a1_1,.int .i64 a1_2,.int .i64 a1_3],.agg #[.int .i64 a2_0,.int .i64 a2_1,.int .i64 a2_2,.int .i64 a2_3]] (by rfl) rfl rfl (by (try simp only [List.map_toArray,List.map_cons,List.map_nil]);first|done|rfl|(simp only [List.length_drop,List.length_take];rfl)) ?_
      with_reducible refine (gazetteerref09_Meets.calls kj5 a1_0 a1_1 a1_2 a1_3 a2_0 a2_1 a2_2 a2_3 t408 _ A30.out).mono ?_
      rintro e w51 ⟨rfl,hb⟩
      refine ⟨_,rfl,?_⟩
      have n0_:=Kb BK400 hb
      have n1_:=Kb BK401 hb
      have n2_:=Kh HB hb
      clear BK400 BK401 HB
      have BK400:=n0_;have BK401:=n1_;have HB:=n2_
      clear n0_ n1_ n2_
      (try clear hb)
      (try clear hb2)
      (try clear hk)
      (try clear hi)
      refine hK.out _ _ ⟨(kC BK400.out 0).trans rfl,(kC BK400.out 1).trans rfl,(kC BK400.out 2).trans rfl,(kC BK400.out 3).trans rfl,(kC BK401.out 0).trans rfl,(kC BK401.out 1).trans rfl,(kC BK401.out 2).trans rfl,(kC BK401.out 3).trans rfl⟩ (fun hHeld => ?_)
      clear hK K
      refine norm_ (a':=?_) ?_ ?_
      rotate_left
      ·show Act.put _ (some 34) _ = _
       simp only [Act.put,sA,sZ,sS,i64_w,i32_w]
       rfl
      refine pure_ (i:=6) (N:=some 35) (v:=?_) (a':=?_) #[tt,tt,tt,tt,tt,tt,tt,ff,ff,ff,ff,ff,ff,ff,ff,ff,ff,ff,ff,ff,ff,ff,ff,ff,ff,ff] rfl rfl (any_of HT_.out (by kernel_rfl)) (fun _ _ _ h => h) (Or.inl ⟨by rfl,?_⟩) ?_ ?_
      rotate_left
      ·intro w'
       go_simp
       with_reducible rfl
      rotate_left
      ·simp only [Act.put,sA,sZ,sS,i64_w,i32_w]
       rfl
      refine pure_ (i:=7) (N:=some 36) (v:=?_) (a':=?_) #[tt,tt,tt,tt,tt,tt,tt,tt,ff,ff,ff,ff,ff,ff,ff,ff,ff,ff,ff,ff,ff,ff,ff,ff,ff,ff] rfl rfl (any_of HT_.out (by kernel_rfl)) (fun _ _ _ h => h) (Or.inl ⟨by rfl,?_⟩) ?_ ?_
      rotate_left
      ·intro w'
       go_simp
       with_reducible rfl
      rotate_left
      ·simp only [Act.put,sA,sZ,sS,i64_w,i32_w]
       rfl
      refine pure_ (i:=8) (N:=some 37) (v:=undef) (a':=?_) #[tt,tt,tt,tt,tt,tt,tt,tt,tt,ff,ff,ff,ff,ff,ff,ff,ff,ff,ff,ff,ff,ff,ff,ff,ff,ff] rfl rfl (any_of HT_.out (by kernel_rfl)) (fun _ _ _ h => h) (Or.inr ⟨by rfl,rfl⟩) ?_ ?_
      rotate_left
      ·simp only [Act.put,sA,sZ,sS,i64_w,i32_w]
       rfl
      refine pure_ (i:=9) (N:=some 38) (v:=undef) (a':=?_) #[tt,tt,tt,tt,tt,tt,tt,tt,tt,tt,ff,ff,ff,ff,ff,ff,ff,ff,ff,ff,ff,ff,ff,ff,ff,ff] rfl rfl (any_of HT_.out (by kernel_rfl)) (fun _ _ _ h => h) (Or.inr ⟨by rfl,rfl⟩) ?_ ?_
      rotate_left
      ·simp only [Act.put,sA,sZ,sS,i64_w,i32_w]
       rfl
      refine pure_ (i:=10) (N:=some 39) (v:=undef) (a':=?_) #[tt,tt,tt,tt,tt,tt,tt,tt,tt,tt,tt,ff,ff,ff,ff,ff,ff,ff,ff,ff,ff,ff,ff,ff,ff,ff] rfl rfl (any_of HT_.out (by kernel_rfl)) (fun _ _ _ h => h) (Or.inr ⟨by rfl,rfl⟩) ?_ ?_
      rotate_left
      ·simp only [Act.put,sA,sZ,sS,i64_w,i32_w]
       rfl
      refine pure_ (i:=11) (N:=some 40) (v:=undef) (a':=?_) #[tt,tt,tt,tt,tt,tt,tt,tt,tt,tt,tt,tt,ff,ff,ff,ff,ff,ff,ff,ff,ff,ff,ff,ff,ff,ff] rfl rfl (any_of HT_.out (by kernel_rfl)) (fun _ _ _ h => h) (Or.inr ⟨by rfl,rfl⟩) ?_ ?_
      rotate_left
      ·simp only [Act.put,sA,sZ,sS,i64_w,i32_w]
       rfl
      refine pure_ (i:=12) (N:=some 41) (v:=undef) (a':=?_) #[tt,tt,tt,tt,tt,tt,tt,tt,tt,tt,tt,tt,tt,ff,ff,ff,ff,ff,ff,ff,ff,ff,ff,ff,ff,ff] rfl rfl (any_of HT_.out (by kernel_rfl)) (fun _ _ _ h => h) (Or.inr ⟨by rfl,rfl⟩) ?_ ?_
      rotate_left
      ·simp only [Act.put,sA,sZ,sS,i64_w,i32_w]
       rfl
      refine pure_ (i:=13) (N:=some 42) (v:=undef) (a':=?_) #[tt,tt,tt,tt,tt,tt,tt,tt,tt,tt,tt,tt,tt,tt,ff,ff,ff,ff,ff,ff,ff,ff,ff,ff,ff,ff] rfl rfl (any_of HT_.out (by kernel_rfl)) (fun _ _ _ h => h) (Or.inr ⟨by rfl,rfl⟩) ?_ ?_
      rotate_left
      ·simp only [Act.put,sA,sZ,sS,i64_w,i32_w]
       rfl
      refine pure_ (i:=14) (N:=some 43) (v:=undef) (a':=?_) #[tt,tt,tt,tt,tt,tt,tt,tt,tt,tt,tt,tt,tt,tt,tt,ff,ff,ff,ff,ff,ff,ff,ff,ff,ff,ff] rfl rfl (any_of HT_.out (by kernel_rfl)) (fun _ _ _ h => h) (Or.inr ⟨by rfl,rfl⟩) ?_ ?_
      rotate_left
      ·simp only [Act.put,sA,sZ,sS,i64_w,i32_w]
       rfl
      refine pure_ (i:=15) (N:=some 44) (v:=?_) (a':=?_) #[tt,tt,tt,tt,tt,tt,tt,tt,tt,tt,tt,tt,tt,tt,tt,tt,ff,ff,ff,ff,ff,ff,ff,ff,ff,ff] rfl rfl (any_of HT_.out (by kernel_rfl)) (fun _ _ _ h => h) (Or.inl ⟨by rfl,?_⟩) ?_ ?_
      rotate_left
      ·intro w'
       go_simp
       with_reducible rfl
      rotate_left
      ·simp only [Act.put,sA,sZ,sS,i64_w,i32_w]
       rfl
      refine pure_ (i:=16) (N:=some 45) (v:=?_) (a':=?_) #[tt,tt,tt,tt,tt,tt,tt,tt,tt,tt,tt,tt,tt,tt,tt,tt,tt,ff,ff,ff,ff,ff,ff,ff,ff,ff] rfl rfl (any_of HT_.out (by kernel_rfl)) (fun _ _ _ h => h) (Or.inl ⟨by rfl,?_⟩) ?_ ?_
      rotate_left
      ·intro w'
       go_simp
       with_reducible rfl
      rotate_left
      ·simp only [Act.put,sA,sZ,sS,i64_w,i32_w]
       rfl
      refine pure_ (i:=17) (N:=some 46) (v:=undef) (a':=?_) #[tt,tt,tt,tt,tt,tt,tt,tt,tt,tt,tt,tt,tt,tt,tt,tt,tt,tt,ff,ff,ff,ff,ff,ff,ff,ff] rfl rfl (any_of HT_.out (by kernel_rfl)) (fun _ _ _ h => h) (Or.inr ⟨by rfl,rfl⟩) ?_ ?_
      rotate_left
      ·simp only [Act.put,sA,sZ,sS,i64_w,i32_w]
       rfl
      refine pure_ (i:=18) (N:=some 47) (v:=undef) (a':=?_) #[tt,tt,tt,tt,tt,tt,tt,tt,tt,tt,tt,tt,tt,tt,tt,tt,tt,tt,tt,ff,ff,ff,ff,ff,ff,ff] rfl rfl (any_of HT_.out (by kernel_rfl)) (fun _ _ _ h => h) (Or.inr ⟨by rfl,rfl⟩) ?_ ?_
      rotate_left
      ·simp only [Act.put,sA,sZ,sS,i64_w,i32_w]
       rfl
      refine pure_ (i:=19) (N:=some 48) (v:=undef) (a':=?_) #[tt,tt,tt,tt,tt,tt,tt,tt,tt,tt,tt,tt,tt,tt,tt,tt,tt,tt,tt,tt,ff,ff,ff,ff,ff,ff] rfl rfl (any_of HT_.out (by kernel_rfl)) (fun _ _ _ h => h) (Or.inr ⟨by rfl,rfl⟩) ?_ ?_
      rotate_left
      ·simp only [Act.put,sA,sZ,sS,i64_w,i32_w]
       rfl
      refine pure_ (i:=20) (N:=some 49) (v:=undef) (a':=?_) #[tt,tt,tt,tt,tt,tt,tt,tt,tt,tt,tt,tt,tt,tt,tt,tt,tt,tt,tt,tt,tt,ff,ff,ff,ff,ff] rfl rfl (any_of HT_.out (by kernel_rfl)) (fun _ _ _ h => h) (Or.inr ⟨by rfl,rfl⟩) ?_ ?_
      rotate_left
      ·simp only [Act.put,sA,sZ,sS,i64_w,i32_w]
       rfl
      refine pure_ (i:=21) (N:=some 50) (v:=undef) (a':=?_) #[tt,tt,tt,tt,tt,tt,tt,tt,tt,tt,tt,tt,tt,tt,tt,tt,tt,tt,tt,tt,tt,tt,ff,ff,ff,ff] rfl rfl (any_of HT_.out (by kernel_rfl)) (fun _ _ _ h => h) (Or.inr ⟨by rfl,rfl⟩) ?_ ?_
      rotate_left
      ·simp only [Act.put,sA,sZ,sS,i64_w,i32_w]
       rfl
      refine pure_ (i:=22) (N:=some 51) (v:=undef) (a':=?_) #[tt,tt,tt,tt,tt,tt,tt,tt,tt,tt,tt,tt,tt,tt,tt,tt,tt,tt,tt,tt,tt,tt,tt,ff,ff,ff] rfl rfl (any_of HT_.out (by kernel_rfl)) (fun _ _ _ h => h) (Or.inr ⟨by rfl,rfl⟩) ?_ ?_
      rotate_left
      ·simp only [Act.put,sA,sZ,sS,i64_w,i32_w]
       rfl
      refine pure_ (i:=23) (N:=some 52) (v:=undef) (a':=?_) #[tt,tt,tt,tt,tt,tt,tt,tt,tt,tt,tt,tt,tt,tt,tt,tt,tt,tt,tt,tt,tt,tt,tt,tt,ff,ff] rfl rfl (any_of HT_.out (by kernel_rfl)) (fun _ _ _ h => h) (Or.inr ⟨by rfl,rfl⟩) ?_ ?_
      rotate_left
      ·simp only [Act.put,sA,sZ,sS,i64_w,i32_w]
       rfl
      refine pure_ (i:=24) (N:=some 53) (v:=?_) (a':=?_) #[tt,tt,tt,tt,tt,tt,tt,tt,tt,tt,tt,tt,tt,tt,tt,tt,tt,tt,tt,tt,tt,tt,tt,tt,tt,ff] rfl rfl (any_of HT_.out (by kernel_rfl)) (fun _ _ _ h => h) (Or.inl ⟨by rfl,?_⟩) ?_ ?_
      rotate_left
      ·intro w'
       go_simp
       with_reducible rfl
      rotate_left
      ·simp only [Act.put,sA,sZ,sS,i64_w,i32_w]
       rfl
      refine pure_ (i:=25) (N:=some 6) (v:=?_) (a':=?_) #[tt,tt,tt,tt,tt,tt,tt,tt,tt,tt,tt,tt,tt,tt,tt,tt,tt,tt,tt,tt,tt,tt,tt,tt,tt,tt] rfl rfl (any_of HT_.out (by kernel_rfl)) (fun _ _ _ h => h) (Or.inl ⟨by rfl,?_⟩) ?_ ?_
      rotate_left
      ·intro w'
       go_simp
       with_reducible rfl
      rotate_left
      ·simp only [Act.put,sA,sZ,sS,i64_w,i32_w]
       rfl
      refine done_ (done_of HT_.out (by kernel_rfl)) ?_
      try go_wp2
      go_ret
      exact ⟨by first|rfl|(simp [errW_none,errW_some] <;> rfl)|(simp [*,errW_none,errW_some] <;> rfl),by repeat (first|(with_reducible first|exact HB.out|apply bA|apply bN|apply bD|refine bS ?_ GE400.out|refine bS ?_ GE401.out)|exact HB.out)⟩
 ·replace c5:=Bool.eq_false_iff.mpr c5
  subst c5
  have H1 : (some false) = some r:=by rw [if_neg (show ¬ (false = true) by decide)] at H;exact H
  clear H
  have H:=H1
  clear H1
  obtain rfl:=Option.some.inj H
  go_enter Try.func14,Try.ntmps14
  go_wp2_with (first|((with_reducible refine gate_dst (N:=4) rfl ?_);refine box_event ?hg (N:=4) ?hd (cs:=#[.int .i64 a1_0,.int .i64 a1_1,.int .i64 a1_2,.int .i64 a1_3]) (t:=35) ?hr ?_;(case hd => rfl);(case hg => rfl);(case hr => first|(go_simp;done)|(go_simp;rfl));intro gb400 hg w52 hbox hb;have n0_:=Kh HB hb;have n1_:=Ak (hbox);have n2_:=Ak ((by rw [hg];exact (below_size HB.out) : w.heap.size ≤ gb400));have n3_:=Ak ((by rw [hg];exact (below_size HB.out) : w.heap.size ≤ gb400));clear HB;have HB:=n0_;have BK400:=n1_;have GW400:=n2_;have GE400:=n3_;clear n0_ n1_ n2_ n3_;clear hb hbox hg)|((with_reducible refine gate_dst (N:=5) rfl ?_);refine box_event ?hg (N:=5) ?hd (cs:=#[.int .i64 a2_0,.int .i64 a2_1,.int .i64 a2_2,.int .i64 a2_3]) (t:=35) ?hr ?_;(case hd => rfl);(case hg => rfl);(case hr => first|(go_simp;done)|(go_simp;rfl));intro gb401 hg w53 hbox hb;have n0_:=Kb BK400 hb;have n1_:=Kh HB hb;have n2_:=Ak (hbox);have n3_:=Ak ((by rw [hg];exact (below_size HB.out) : w.heap.size ≤ gb401));have n4_:=Ak ((by rw [hg];exact (below_size HB.out) : w.heap.size ≤ gb401));have n5_:=Ak ((by rw [hg];exact Nat.ne_of_lt (blk_lt (g:=gb400) (o:=.cells #[.int .i64 a1_0,.int .i64 a1_1,.int .i64 a1_2,.int .i64 a1_3] 35 (0,0)) BK400.out) : gb400 ≠ gb401));have n6_:=Ak ((by rw [hg];exact Nat.ne_of_gt (blk_lt (g:=gb400) (o:=.cells #[.int .i64 a1_0,.int .i64 a1_1,.int .i64 a1_2,.int .i64 a1_3] 35 (0,0)) BK400.out) : gb401 ≠ gb400));clear BK400;clear HB;have BK400:=n0_;have HB:=n1_;have BK401:=n2_;have GW401:=n3_;have GE401:=n4_;have NB400_401:=n5_;have NB401_400:=n6_;clear n0_ n1_ n2_ n3_ n4_ n5_ n6_;clear hb hbox hg)|((with_reducible refine gate_callee (f:=32) rfl ?_);refine goesL_ (some 7) rfl rfl Try.func32 (by kernel_rfl) rfl #[] rfl (by (try simp only [List.map_toArray,List.map_cons,List.map_nil]);first|done|rfl|(simp only [List.length_drop,List.length_take];rfl)) ?_;(with_reducible refine (gazetteerlaw09_wakes.calls k  false _ A4.out).mono ?_);rintro e w54 ⟨rfl,hb⟩;refine ⟨_,rfl,?_⟩;have n0_:=Kb BK400 hb;have n1_:=Kb BK401 hb;have n2_:=Kh HB hb;clear BK400;clear BK401;clear HB;have BK400:=n0_;have BK401:=n1_;have HB:=n2_;clear n0_ n1_ n2_;(try clear hb);(try clear hb2);(try clear hk);(try clear hi)))
  go_ret
  exact ⟨by first|rfl|(simp [errW_none,errW_some] <;> rfl)|(simp [*,errW_none,errW_some] <;> rfl),by repeat (first|(with_reducible first|exact HB.out|apply bA|apply bN|apply bD|refine bS ?_ GE400.out|refine bS ?_ GE401.out)|exact HB.out)⟩
end Go.Proofs.Ythlhmijgbjcloaa.A
end
section
namespace Go.Proofs.Ythlhmijgbjcloaa.A
open Go.RowKit Go.Proofs.YthlhmijgbjcloaaW.PrintWords Go.Proofs.YthlhmijgbjcloaaW.PrintLast Go.Proofs.YthlhmijgbjcloaaW.PrintMore
attribute [local go_sem] max2_int min2_int max_two min_two max_three min_three max_four min_four   -- for this text's walks alone
def KeyTells_Pure : Prop := ∀ (x0 : Int) (x1 : S35) (x2 : S35), (Lit.int .i64 x0).wf = true → wf35 x1 → wf35 x2 → ∃ k, gazetteerlaw09_KeyTells.f k x0 x1.f0 x1.f1 x1.f2 x1.f3 x2.f0 x2.f1 x2.f2 x2.f3 = some true
end Go.Proofs.Ythlhmijgbjcloaa.A
end
