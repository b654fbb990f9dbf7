/- What the row of this claim reaches. No condition. -/
import Derived.Test.YtknlbfandkmeiaaZX1
set_option linter.unusedVariables false
set_option linter.unusedSimpArgs false
section
namespace Go.Proofs.Ytknlbfandkmeiaa.M
open Go.RowKit Go.Proofs.YtknlbfandkmeiaaW.PrintWords Go.Proofs.YtknlbfandkmeiaaW.PrintLast Go.Proofs.YtknlbfandkmeiaaW.PrintMore
attribute [local go_sem] max2_int min2_int max_two min_two max_three min_three max_four min_four   -- for this text's walks alone
def gazetteerref09_Right.f (a0 : Int) (a1_0 : Int) (a1_1 : Int) (a1_2 : Int) (a1_3 : Int) : Option (Bool) := (gazetteerref09_Box.f a1_0 a1_1 a1_2 a1_3).bind fun t187 => (if t187 = true then (if a0 < 1 then (some false) else (if a0 > 3 then (some false) else (if a0 = 1 then (some true) else (if a0 = 2 then (if a1_2 = 0 then (if a1_3 = 0 then (some true) else (if a0 = 3 then (if a1_0 = a1_1 then (some (a1_2 == a1_3)) else (some false)) else (some false))) else (if a0 = 3 then (if a1_0 = a1_1 then (some (a1_2 == a1_3)) else (some false)) else (some false))) else (if a0 = 3 then (if a1_0 = a1_1 then (some (a1_2 == a1_3)) else (some false)) else (some false)))))) else (some false))
set_option maxHeartbeats 8000000 in
set_option maxRecDepth 100000 in
theorem gazetteerref09_Right.calls (a0 : Int) (a1_0 : Int) (a1_1 : Int) (a1_2 : Int) (a1_3 : Int) (r : Bool) (w : World) (h : gazetteerref09_Right.f a0 a1_0 a1_1 a1_2 a1_3 = some r) :
  Calls Try.prog 70 #[.int .i64 a0,.agg #[.int .i64 a1_0,.int .i64 a1_1,.int .i64 a1_2,.int .i64 a1_3]] w fun e w' => e = .returned (.bool r)∧Below w.heap.size w w':=by
 have hu36:=Try.underlying36
 have HB:=Ak (Below.refl w.heap.size w)
 have H : ((gazetteerref09_Box.f a1_0 a1_1 a1_2 a1_3).bind fun t187 => (if t187 = true then (if a0 < 1 then (some false) else (if a0 > 3 then (some false) else (if a0 = 1 then (some true) else (if a0 = 2 then (if a1_2 = 0 then (if a1_3 = 0 then (some true) else (if a0 = 3 then (if a1_0 = a1_1 then (some (a1_2 == a1_3)) else (some false)) else (some false))) else (if a0 = 3 then (if a1_0 = a1_1 then (some (a1_2 == a1_3)) else (some false)) else (some false))) else (if a0 = 3 then (if a1_0 = a1_1 then (some (a1_2 == a1_3)) else (some false)) else (some false)))))) else (some false))) = some r:=h
 clear h
 replace H:=Option.bind_eq_some_iff.mp H
 obtain ⟨t187,A30,H⟩:=H
 replace H : (if t187 = true then (if a0 < 1 then (some false) else (if a0 > 3 then (some false) else (if a0 = 1 then (some true) else (if a0 = 2 then (if a1_2 = 0 then (if a1_3 = 0 then (some true) else (if a0 = 3 then (if a1_0 = a1_1 then (some (a1_2 == a1_3)) else (some false)) else (some false))) else (if a0 = 3 then (if a1_0 = a1_1 then (some (a1_2 == a1_3)) else (some false)) else (some false))) else (if a0 = 3 then (if a1_0 = a1_1 then (some (a1_2 == a1_3)) else (some false)) else (some false)))))) else (some false)) = some r:=H
 have A3:=Ak A30
 clear A30
 by_cases c4 : t187 = true
 ·subst c4
  have H1 : (if a0 < 1 then (some false) else (if a0 > 3 then (some false) else (if a0 = 1 then (some true) else (if a0 = 2 then (if a1_2 = 0 then (if a1_3 = 0 then (some true) else (if a0 = 3 then (if a1_0 = a1_1 then (some (a1_2 == a1_3)) else (some false)) else (some false))) else (if a0 = 3 then (if a1_0 = a1_1 then (some (a1_2 == a1_3)) else (some false)) else (some false))) else (if a0 = 3 then (if a1_0 = a1_1 then (some (a1_2 == a1_3)) else (some false)) else (some false)))))) = some r:=by rw [if_pos rfl] at H;exact H
  clear H
  have H:=H1
  clear H1
  by_cases c5 : a0 < 1
  ·rw [if_pos c5] at H
   have c5b0 : decide (a0 < 1) = true:=decide_eq_true c5
   clear c5
   obtain rfl:=Option.some.inj H
   go_enter Try.func70,Try.ntmps70
   go_wp2_with (first|((with_reducible refine gate_dst (N:=3) rfl ?_);refine box_event ?hg (N:=3) ?hd (cs:=#[.int .i64 a1_0,.int .i64 a1_1,.int .i64 a1_2,.int .i64 a1_3]) (t:=36) ?hr ?_;(case hd => rfl);(case hg => rfl);(case hr => first|(go_simp;done)|(go_simp;rfl));intro gb186 hg w6 hbox hb;have n0_:=Ak (below_step (by repeat (first|(with_reducible first|exact HB.out|apply bA|apply bN|apply bD)|exact HB.out)) hb);have n1_:=Ak (hbox);have n2_:=Ak ((by rw [hg];exact (below_size (by repeat (first|(with_reducible first|exact HB.out|apply bA|apply bN|apply bD)|exact HB.out))) : w.heap.size ≤ gb186));have n3_:=Ak ((by rw [hg];exact (below_size (by repeat (first|(with_reducible first|exact HB.out|apply bA|apply bN|apply bD)|exact HB.out))) : w.heap.size ≤ gb186));clear HB;have HB:=n0_;have BK186:=n1_;have GW186:=n2_;have GE186:=n3_;clear n0_ n1_ n2_ n3_;clear hb hbox hg;have hcz7_0 : w6.cell? ⟨gb186,0,none⟩ = some (.int .i64 a1_0):=(kC BK186.out 0).trans rfl;have hcz7_1 : w6.cell? ⟨gb186,1,none⟩ = some (.int .i64 a1_1):=(kC BK186.out 1).trans rfl;have hcz7_2 : w6.cell? ⟨gb186,2,none⟩ = some (.int .i64 a1_2):=(kC BK186.out 2).trans rfl;have hcz7_3 : w6.cell? ⟨gb186,3,none⟩ = some (.int .i64 a1_3):=(kC BK186.out 3).trans rfl;have hfz7_0:=blk_frozen BK186.out 0;have hfz7_1:=blk_frozen BK186.out 1;have hfz7_2:=blk_frozen BK186.out 2;have hfz7_3:=blk_frozen BK186.out 3)|((with_reducible refine gate_callee (f:=26) rfl ?_);refine goesL_ (some 6) rfl rfl Try.func26 (by kernel_rfl) rfl #[.agg #[.int .i64 a1_0,.int .i64 a1_1,.int .i64 a1_2,.int .i64 a1_3]] rfl (by (try simp only [List.map_toArray,List.map_cons,List.map_nil]);first|done|rfl|(simp only [List.length_drop,List.length_take];rfl)) ?_;(with_reducible refine (gazetteerref09_Box.calls a1_0 a1_1 a1_2 a1_3 true _ A3.out).mono ?_);rintro e w8 ⟨rfl,hb⟩;refine ⟨_,rfl,?_⟩;have n0_:=Ak (kB (g:=gb186) (o:=.cells #[.int .i64 a1_0,.int .i64 a1_1,.int .i64 a1_2,.int .i64 a1_3] 36 (0,0)) (by (with_reducible repeat (first|refine kN ?_ _|refine kD ?_|refine kA ?_ _));exact BK186.out) hb);have n1_:=Ak (below_step (by repeat (first|(with_reducible first|exact HB.out|apply bA|apply bN|apply bD|refine bS ?_ GE186.out)|exact HB.out)) hb);clear BK186;clear HB;have BK186:=n0_;have HB:=n1_;clear n0_ n1_;(try clear hb);(try clear hb2);(try clear hk);(try clear hi)))
   go_ret
   exact ⟨by first|rfl|(simp [errW_none,errW_some] <;> rfl)|(simp [*,errW_none,errW_some] <;> rfl),by repeat (first|(with_reducible first|exact HB.out|apply bA|apply bN|apply bD|refine bS ?_ GE186.out)|exact HB.out)⟩
  ·rw [if_neg c5] at H
   have c5b0 : decide (a0 < 1) = false:=decide_eq_false c5
   clear c5
   by_cases c9 : a0 > 3
   ·rw [if_pos c9] at H
    have c9b0 : decide (3 < a0) = true:=decide_eq_true c9
    clear c9
    obtain rfl:=Option.some.inj H
    go_enter Try.func70,Try.ntmps70
    go_wp2_with (first|((with_reducible refine gate_dst (N:=3) rfl ?_);refine box_event ?hg (N:=3) ?hd (cs:=#[.int .i64 a1_0,.int .i64 a1_1,.int .i64 a1_2,.int .i64 a1_3]) (t:=36) ?hr ?_;(case hd => rfl);(case hg => rfl);(case hr => first|(go_simp;done)|(go_simp;rfl));intro gb186 hg w10 hbox hb;have n0_:=Ak (below_step (by repeat (first|(with_reducible first|exact HB.out|apply bA|apply bN|apply bD)|exact HB.out)) hb);have n1_:=Ak (hbox);have n2_:=Ak ((by rw [hg];exact (below_size (by repeat (first|(with_reducible first|exact HB.out|apply bA|apply bN|apply bD)|exact HB.out))) : w.heap.size ≤ gb186));have n3_:=Ak ((by rw [hg];exact (below_size (by repeat (first|(with_reducible first|exact HB.out|apply bA|apply bN|apply bD)|exact HB.out))) : w.heap.size ≤ gb186));clear HB;have HB:=n0_;have BK186:=n1_;have GW186:=n2_;have GE186:=n3_;clear n0_ n1_ n2_ n3_;clear hb hbox hg;have hcz11_0 : w10.cell? ⟨gb186,0,none⟩ = some (.int .i64 a1_0):=(kC BK186.out 0).trans rfl;have hcz11_1 : w10.cell? ⟨gb186,1,none⟩ = some (.int .i64 a1_1):=(kC BK186.out 1).trans rfl;have hcz11_2 : w10.cell? ⟨gb186,2,none⟩ = some (.int .i64 a1_2):=(kC BK186.out 2).trans rfl;have hcz11_3 : w10.cell? ⟨gb186,3,none⟩ = some (.int .i64 a1_3):=(kC BK186.out 3).trans rfl;have hfz11_0:=blk_frozen BK186.out 0;have hfz11_1:=blk_frozen BK186.out 1;have hfz11_2:=blk_frozen BK186.out 2;have hfz11_3:=blk_frozen BK186.out 3)|((with_reducible refine gate_callee (f:=26) rfl ?_);refine goesL_ (some 6) rfl rfl Try.func26 (by kernel_rfl) rfl #[.agg #[.int .i64 a1_0,.int .i64 a1_1,.int .i64 a1_2,.int .i64 a1_3]] rfl (by (try simp only [List.map_toArray,List.map_cons,List.map_nil]);first|done|rfl|(simp only [List.length_drop,List.length_take];rfl)) ?_;(with_reducible refine (gazetteerref09_Box.calls a1_0 a1_1 a1_2 a1_3 true _ A3.out).mono ?_);rintro e w12 ⟨rfl,hb⟩;refine ⟨_,rfl,?_⟩;have n0_:=Ak (kB (g:=gb186) (o:=.cells #[.int .i64 a1_0,.int .i64 a1_1,.int .i64 a1_2,.int .i64 a1_3] 36 (0,0)) (by (with_reducible repeat (first|refine kN ?_ _|refine kD ?_|refine kA ?_ _));exact BK186.out) hb);have n1_:=Ak (below_step (by repeat (first|(with_reducible first|exact HB.out|apply bA|apply bN|apply bD|refine bS ?_ GE186.out)|exact HB.out)) hb);clear BK186;clear HB;have BK186:=n0_;have HB:=n1_;clear n0_ n1_;(try clear hb);(try clear hb2);(try clear hk);(try clear hi)))
    go_ret
    exact ⟨by first|rfl|(simp [errW_none,errW_some] <;> rfl)|(simp [*,errW_none,errW_some] <;> rfl),by repeat (first|(with_reducible first|exact HB.out|apply bA|apply bN|apply bD|refine bS ?_ GE186.out)|exact HB.out)⟩
   ·rw [if_neg c9] at H
    have c9b0 : decide (3 < a0) = false:=decide_eq_false c9
    clear c9
    by_cases c13 : a0 = 1
    ·rw [if_pos c13] at H
     have c13b0 : (a0 == 1) = true:=beq_iff_eq.mpr c13
     have c13b1 : (a0 != 1) = false:=bne_eq_false_iff_eq.mpr c13
     clear c13
     obtain rfl:=Option.some.inj H
     go_enter Try.func70,Try.ntmps70
     go_wp2_with (first|((with_reducible refine gate_dst (N:=3) rfl ?_);refine box_event ?hg (N:=3) ?hd (cs:=#[.int .i64 a1_0,.int .i64 a1_1,.int .i64 a1_2,.int .i64 a1_3]) (t:=36) ?hr ?_;(case hd => rfl);(case hg => rfl);(case hr => first|(go_simp;done)|(go_simp;rfl));intro gb186 hg w14 hbox hb;have n0_:=Ak (below_step (by repeat (first|(with_reducible first|exact HB.out|apply bA|apply bN|apply bD)|exact HB.out)) hb);have n1_:=Ak (hbox);have n2_:=Ak ((by rw [hg];exact (below_size (by repeat (first|(with_reducible first|exact HB.out|apply bA|apply bN|apply bD)|exact HB.out))) : w.heap.size ≤ gb186));have n3_:=Ak ((by rw [hg];exact (below_size (by repeat (first|(with_reducible first|exact HB.out|apply bA|apply bN|apply bD)|exact HB.out))) : w.heap.size ≤ gb186));clear HB;have HB:=n0_;have BK186:=n1_;have GW186:=n2_;have GE186:=n3_;clear n0_ n1_ n2_ n3_;clear hb hbox hg;have hcz15_0 : w14.cell? ⟨gb186,0,none⟩ = some (.int .i64 a1_0):=(kC BK186.out 0).trans rfl;have hcz15_1 : w14.cell? ⟨gb186,1,none⟩ = some (.int .i64 a1_1):=(kC BK186.out 1).trans rfl;have hcz15_2 : w14.cell? ⟨gb186,2,none⟩ = some (.int .i64 a1_2):=(kC BK186.out 2).trans rfl;have hcz15_3 : w14.cell? ⟨gb186,3,none⟩ = some (.int .i64 a1_3):=(kC BK186.out 3).trans rfl;have hfz15_0:=blk_frozen BK186.out 0;have hfz15_1:=blk_frozen BK186.out 1;have hfz15_2:=blk_frozen BK186.out 2;have hfz15_3:=blk_frozen BK186.out 3)|((with_reducible refine gate_callee (f:=26) rfl ?_);refine goesL_ (some 6) rfl rfl Try.func26 (by kernel_rfl) rfl #[.agg #[.int .i64 a1_0,.int .i64 a1_1,.int .i64 a1_2,.int .i64 a1_3]] rfl (by (try simp only [List.map_toArray,List.map_cons,List.map_nil]);first|done|rfl|(simp only [List.length_drop,List.length_take];rfl)) ?_;(with_reducible refine (gazetteerref09_Box.calls a1_0 a1_1 a1_2 a1_3 true _ A3.out).mono ?_);rintro e w16 ⟨rfl,hb⟩;refine ⟨_,rfl,?_⟩;have n0_:=Ak (kB (g:=gb186) (o:=.cells #[.int .i64 a1_0,.int .i64 a1_1,.int .i64 a1_2,.int .i64 a1_3] 36 (0,0)) (by (with_reducible repeat (first|refine kN ?_ _|refine kD ?_|refine kA ?_ _));exact BK186.out) hb);have n1_:=Ak (below_step (by repeat (first|(with_reducible first|exact HB.out|apply bA|apply bN|apply bD|refine bS ?_ GE186.out)|exact HB.out)) hb);clear BK186;clear HB;have BK186:=n0_;have HB:=n1_;clear n0_ n1_;(try clear hb);(try clear hb2);(try clear hk);(try clear hi)))
     go_ret
     exact ⟨by first|rfl|(simp [errW_none,errW_some] <;> rfl)|(simp [*,errW_none,errW_some] <;> rfl),by repeat (first|(with_reducible first|exact HB.out|apply bA|apply bN|apply bD|refine bS ?_ GE186.out)|exact HB.out)⟩
    ·rw [if_neg c13] at H
     have c13b0 : (a0 == 1) = false:=beq_eq_false_iff_ne.mpr c13
     have c13b1 : (a0 != 1) = true:=bne_iff_ne.mpr c13
     by_cases c17 : a0 = 2
     ·rw [if_pos c17] at H
      have c17b0 : (a0 == 2) = true:=beq_iff_eq.mpr c17
      have c17b1 : (a0 != 2) = false:=bne_eq_false_iff_eq.mpr c17
      clear c17
      by_cases c18 : a1_2 = 0
      ·rw [if_pos c18] at H
       have c18b0 : (a1_2 == 0) = true:=beq_iff_eq.mpr c18
       have c18b1 : (a1_2 != 0) = false:=bne_eq_false_iff_eq.mpr c18
       clear c18
       by_cases c19 : a1_3 = 0
       ·rw [if_pos c19] at H
        have c19b0 : (a1_3 == 0) = true:=beq_iff_eq.mpr c19
        have c19b1 : (a1_3 != 0) = false:=bne_eq_false_iff_eq.mpr c19
        clear c19
        obtain rfl:=Option.some.inj H
        go_enter Try.func70,Try.ntmps70
        go_wp2_with (first|((with_reducible refine gate_dst (N:=3) rfl ?_);refine box_event ?hg (N:=3) ?hd (cs:=#[.int .i64 a1_0,.int .i64 a1_1,.int .i64 a1_2,.int .i64 a1_3]) (t:=36) ?hr ?_;(case hd => rfl);(case hg => rfl);(case hr => first|(go_simp;done)|(go_simp;rfl));intro gb186 hg w20 hbox hb;have n0_:=Ak (below_step (by repeat (first|(with_reducible first|exact HB.out|apply bA|apply bN|apply bD)|exact HB.out)) hb);have n1_:=Ak (hbox);have n2_:=Ak ((by rw [hg];exact (below_size (by repeat (first|(with_reducible first|exact HB.out|apply bA|apply bN|apply bD)|exact HB.out))) : w.heap.size ≤ gb186));have n3_:=Ak ((by rw [hg];exact (below_size (by repeat (first|(with_reducible first|exact HB.out|apply bA|apply bN|apply bD)|exact HB.out))) : w.heap.size ≤ gb186));clear HB;have HB:=n0_;have BK186:=n1_;have GW186:=n2_;have GE186:=n3_;clear n0_ n1_ n2_ n3_;clear hb hbox hg;have hcz21_0 : w20.cell? ⟨gb186,0,none⟩ = some (.int .i64 a1_0):=(kC BK186.out 0).trans rfl;have hcz21_1 : w20.cell? ⟨gb186,1,none⟩ = some (.int .i64 a1_1):=(kC BK186.out 1).trans rfl;have hcz21_2 : w20.cell? ⟨gb186,2,none⟩ = some (.int .i64 a1_2):=(kC BK186.out 2).trans rfl;have hcz21_3 : w20.cell? ⟨gb186,3,none⟩ = some (.int .i64 a1_3):=(kC BK186.out 3).trans rfl;have hfz21_0:=blk_frozen BK186.out 0;have hfz21_1:=blk_frozen BK186.out 1;have hfz21_2:=blk_frozen BK186.out 2;have hfz21_3:=blk_frozen BK186.out 3)|((with_reducible refine gate_callee (f:=26) rfl ?_);refine goesL_ (some 6) rfl rfl Try.func26 (by kernel_rfl) rfl #[.agg #[.int .i64 a1_0,.int .i64 a1_1,.int .i64 a1_2,.int .i64 a1_3]] rfl (by (try simp only [List.map_toArray,List.map_cons,List.map_nil]);first|done|rfl|(simp only [List.length_drop,List.length_take];rfl)) ?_;(with_reducible refine (gazetteerref09_Box.calls a1_0 a1_1 a1_2 a1_3 true _ A3.out).mono ?_);rintro e w22 ⟨rfl,hb⟩;refine ⟨_,rfl,?_⟩;have n0_:=Ak (kB (g:=gb186) (o:=.cells #[.int .i64 a1_0,.int .i64 a1_1,.int .i64 a1_2,.int .i64 a1_3] 36 (0,0)) (by (with_reducible repeat (first|refine kN ?_ _|refine kD ?_|refine kA ?_ _));exact BK186.out) hb);have n1_:=Ak (below_step (by repeat (first|(with_reducible first|exact HB.out|apply bA|apply bN|apply bD|refine bS ?_ GE186.out)|exact HB.out)) hb);clear BK186;clear HB;have BK186:=n0_;have HB:=n1_;clear n0_ n1_;(try clear hb);(try clear hb2);(try clear hk);(try clear hi);have hcz23_0 : w22.cell? ⟨gb186,0,none⟩ = some (.int .i64 a1_0):=(kC BK186.out 0).trans rfl;have hcz23_1 : w22.cell? ⟨gb186,1,none⟩ = some (.int .i64 a1_1):=(kC BK186.out 1).trans rfl;have hcz23_2 : w22.cell? ⟨gb186,2,none⟩ = some (.int .i64 a1_2):=(kC BK186.out 2).trans rfl;have hcz23_3 : w22.cell? ⟨gb186,3,none⟩ = some (.int .i64 a1_3):=(kC BK186.out 3).trans rfl;have hfz23_0:=blk_frozen BK186.out 0;have hfz23_1:=blk_frozen BK186.out 1;have hfz23_2:=blk_frozen BK186.out 2;have hfz23_3:=blk_frozen BK186.out 3))
        go_ret
        exact ⟨by first|rfl|(simp [errW_none,errW_some] <;> rfl)|(simp [*,errW_none,errW_some] <;> rfl),by repeat (first|(with_reducible first|exact HB.out|apply bA|apply bN|apply bD|refine bS ?_ GE186.out)|exact HB.out)⟩
       ·rw [if_neg c19] at H
        have c19b0 : (a1_3 == 0) = false:=beq_eq_false_iff_ne.mpr c19
        have c19b1 : (a1_3 != 0) = true:=bne_iff_ne.mpr c19
        by_cases c24 : a0 = 3
        ·rw [if_pos c24] at H
         have c24b0 : (a0 == 3) = true:=beq_iff_eq.mpr c24
         have c24b1 : (a0 != 3) = false:=bne_eq_false_iff_eq.mpr c24
         clear c24
         by_cases c25 : a1_0 = a1_1
         ·rw [if_pos c25] at H
          have c25b0 : (a1_0 == a1_1) = true:=beq_iff_eq.mpr c25
          have c25b1 : (a1_0 != a1_1) = false:=bne_eq_false_iff_eq.mpr c25
          clear c25
          obtain rfl:=Option.some.inj H
          go_enter Try.func70,Try.ntmps70
          go_wp2_with (first|((with_reducible refine gate_dst (N:=3) rfl ?_);refine box_event ?hg (N:=3) ?hd (cs:=#[.int .i64 a1_0,.int .i64 a1_1,.int .i64 a1_2,.int .i64 a1_3]) (t:=36) ?hr ?_;(case hd => rfl);(case hg => rfl);(case hr => first|(go_simp;done)|(go_simp;rfl));intro gb186 hg w26 hbox hb;have n0_:=Ak (below_step (by repeat (first|(with_reducible first|exact HB.out|apply bA|apply bN|apply bD)|exact HB.out)) hb);have n1_:=Ak (hbox);have n2_:=Ak ((by rw [hg];exact (below_size (by repeat (first|(with_reducible first|exact HB.out|apply bA|apply bN|apply bD)|exact HB.out))) : w.heap.size ≤ gb186));have n3_:=Ak ((by rw [hg];exact (below_size (by repeat (first|(with_reducible first|exact HB.out|apply bA|apply bN|apply bD)|exact HB.out))) : w.heap.size ≤ gb186));clear HB;have HB:=n0_;have BK186:=n1_;have GW186:=n2_;have GE186:=n3_;clear n0_ n1_ n2_ n3_;clear hb hbox hg;have hcz27_0 : w26.cell? ⟨gb186,0,none⟩ = some (.int .i64 a1_0):=(kC BK186.out 0).trans rfl;have hcz27_1 : w26.cell? ⟨gb186,1,none⟩ = some (.int .i64 a1_1):=(kC BK186.out 1).trans rfl;have hcz27_2 : w26.cell? ⟨gb186,2,none⟩ = some (.int .i64 a1_2):=(kC BK186.out 2).trans rfl;have hcz27_3 : w26.cell? ⟨gb186,3,none⟩ = some (.int .i64 a1_3):=(kC BK186.out 3).trans rfl;have hfz27_0:=blk_frozen BK186.out 0;have hfz27_1:=blk_frozen BK186.out 1;have hfz27_2:=blk_frozen BK186.out 2;have hfz27_3:=blk_frozen BK186.out 3)|((with_reducible refine gate_callee (f:=26) rfl ?_);refine goesL_ (some 6) rfl rfl Try.func26 (by kernel_rfl) rfl #[.agg #[.int .i64 a1_0,.int .i64 a1_1,.int .i64 a1_2,.int .i64 a1_3]] rfl (by (try simp only [List.map_toArray,List.map_cons,List.map_nil]);first|done|rfl|(simp only [List.length_drop,List.length_take];rfl)) ?_;(with_reducible refine (gazetteerref09_Box.calls a1_0 a1_1 a1_2 a1_3 true _ A3.out).mono ?_);rintro e w28 ⟨rfl,hb⟩;refine ⟨_,rfl,?_⟩;have n0_:=Ak (kB (g:=gb186) (o:=.cells #[.int .i64 a1_0,.int .i64 a1_1,.int .i64 a1_2,.int .i64 a1_3] 36 (0,0)) (by (with_reducible repeat (first|refine kN ?_ _|refine kD ?_|refine kA ?_ _));exact BK186.out) hb);have n1_:=Ak (below_step (by repeat (first|(with_reducible first|exact HB.out|apply bA|apply bN|apply bD|refine bS ?_ GE186.out)|exact HB.out)) hb);clear BK186;clear HB;have BK186:=n0_;have HB:=n1_;clear n0_ n1_;(try clear hb);(try clear hb2);(try clear hk);(try clear hi);have hcz29_0 : w28.cell? ⟨gb186,0,none⟩ = some (.int .i64 a1_0):=(kC BK186.out 0).trans rfl;have hcz29_1 : w28.cell? ⟨gb186,1,none⟩ = some (.int .i64 a1_1):=(kC BK186.out 1).trans rfl;have hcz29_2 : w28.cell? ⟨gb186,2,none⟩ = some (.int .i64 a1_2):=(kC BK186.out 2).trans rfl;have hcz29_3 : w28.cell? ⟨gb186,3,none⟩ = some (.int .i64 a1_3):=(kC BK186.out 3).trans rfl;have hfz29_0:=blk_frozen BK186.out 0;have hfz29_1:=blk_frozen BK186.out 1;have hfz29_2:=blk_frozen BK186.out 2;have hfz29_3:=blk_frozen BK186.out 3))
          go_ret
          exact ⟨by first|rfl|(simp [errW_none,errW_some] <;> rfl)|(simp [*,errW_none,errW_some] <;> rfl),by repeat (first|(with_reducible first|exact HB.out|apply bA|apply bN|apply bD|refine bS ?_ GE186.out)|exact HB.out)⟩
         ·rw [if_neg c25] at H
          have c25b0 : (a1_0 == a1_1) = false:=beq_eq_false_iff_ne.mpr c25
          have c25b1 : (a1_0 != a1_1) = true:=bne_iff_ne.mpr c25
          obtain rfl:=Option.some.inj H
          go_enter Try.func70,Try.ntmps70
          go_wp2_with (first|((with_reducible refine gate_dst (N:=3) rfl ?_);refine box_event ?hg (N:=3) ?hd (cs:=#[.int .i64 a1_0,.int .i64 a1_1,.int .i64 a1_2,.int .i64 a1_3]) (t:=36) ?hr ?_;(case hd => rfl);(case hg => rfl);(case hr => first|(go_simp;done)|(go_simp;rfl));intro gb186 hg w30 hbox hb;have n0_:=Ak (below_step (by repeat (first|(with_reducible first|exact HB.out|apply bA|apply bN|apply bD)|exact HB.out)) hb);have n1_:=Ak (hbox);have n2_:=Ak ((by rw [hg];exact (below_size (by repeat (first|(with_reducible first|exact HB.out|apply bA|apply bN|apply bD)|exact HB.out))) : w.heap.size ≤ gb186));have n3_:=Ak ((by rw [hg];exact (below_size (by repeat (first|(with_reducible first|exact HB.out|apply bA|apply bN|apply bD)|exact HB.out))) : w.heap.size ≤ gb186));clear HB;have HB:=n0_;have BK186:=n1_;have GW186:=n2_;have GE186:=n3_;clear n0_ n1_ n2_ n3_;clear hb hbox hg;have hcz31_0 : w30.cell? ⟨gb186,0,none⟩ = some (.int .i64 a1_0):=(kC BK186.out 0).trans rfl;have hcz31_1 : w30.cell? ⟨gb186,1,none⟩ = some (.int .i64 a1_1):=(kC BK186.out 1).trans rfl;have hcz31_2 : w30.cell? ⟨gb186,2,none⟩ = some (.int .i64 a1_2):=(kC BK186.out 2).trans rfl;have hcz31_3 : w30.cell? ⟨gb186,3,none⟩ = some (.int .i64 a1_3):=(kC BK186.out 3).trans rfl;have hfz31_0:=blk_frozen BK186.out 0;have hfz31_1:=blk_frozen BK186.out 1;have hfz31_2:=blk_frozen BK186.out 2;have hfz31_3:=blk_frozen BK186.out 3)|((with_reducible refine gate_callee (f:=26) rfl ?_);refine goesL_ (some 6) rfl rfl Try.func26 (by kernel_rfl) rfl #[.agg #[.int .i64 a1_0,.int .i64 a1_1,.int .i64 a1_2,.int .i64 a1_3]] rfl (by (try simp only [List.map_toArray,List.map_cons,List.map_nil]);first|done|rfl|(simp only [List.length_drop,List.length_take];rfl)) ?_;(with_reducible refine (gazetteerref09_Box.calls a1_0 a1_1 a1_2 a1_3 true _ A3.out).mono ?_);rintro e w32 ⟨rfl,hb⟩;refine ⟨_,rfl,?_⟩;have n0_:=Ak (kB (g:=gb186) (o:=.cells #[.int .i64 a1_0,.int .i64 a1_1,.int .i64 a1_2,.int .i64 a1_3] 36 (0,0)) (by (with_reducible repeat (first|refine kN ?_ _|refine kD ?_|refine kA ?_ _));exact BK186.out) hb);have n1_:=Ak (below_step (by repeat (first|(with_reducible first|exact HB.out|apply bA|apply bN|apply bD|refine bS ?_ GE186.out)|exact HB.out)) hb);clear BK186;clear HB;have BK186:=n0_;have HB:=n1_;clear n0_ n1_;(try clear hb);(try clear hb2);(try clear hk);(try clear hi);have hcz33_0 : w32.cell? ⟨gb186,0,none⟩ = some (.int .i64 a1_0):=(kC BK186.out 0).trans rfl;have hcz33_1 : w32.cell? ⟨gb186,1,none⟩ = some (.int .i64 a1_1):=(kC BK186.out 1).trans rfl;have hcz33_2 : w32.cell? ⟨gb186,2,none⟩ = some (.int .i64 a1_2):=(kC BK186.out 2).trans rfl;have hcz33_3 : w32.cell? ⟨gb186,3,none⟩ = some (.int .i64 a1_3):=(kC BK186.out 3).trans rfl;have hfz33_0:=blk_frozen BK186.out 0;have hfz33_1:=blk_frozen BK186.out 1;have hfz33_2:=blk_frozen BK186.out 2;have hfz33_3:=blk_frozen BK186.out 3))
          go_ret
          exact ⟨by first|rfl|(simp [errW_none,errW_some] <;> rfl)|(simp [*,errW_none,errW_some] <;> rfl),by repeat (first|(with_reducible first|exact HB.out|apply bA|apply bN|apply bD|refine bS ?_ GE186.out)|exact HB.out)⟩
        ·rw [if_neg c24] at H
         have c24b0 : (a0 == 3) = false:=beq_eq_false_iff_ne.mpr c24
         have c24b1 : (a0 != 3) = true:=bne_iff_ne.mpr c24
         obtain rfl:=Option.some.inj H
         go_enter Try.func70,Try.ntmps70
         go_wp2_with (first|((with_reducible refine gate_dst (N:=3) rfl ?_);refine box_event ?hg (N:=3) ?hd (cs:=#[.int .i64 a1_0,.int .i64 a1_1,.int .i64 a1_2,.int .i64 a1_3]) (t:=36) ?hr ?_;(case hd => rfl);(case hg => rfl);(case hr => first|(go_simp;done)|(go_simp;rfl));intro gb186 hg w34 hbox hb;have n0_:=Ak (below_step (by repeat (first|(with_reducible first|exact HB.out|apply bA|apply bN|apply bD)|exact HB.out)) hb);have n1_:=Ak (hbox);have n2_:=Ak ((by rw [hg];exact (below_size (by repeat (first|(with_reducible first|exact HB.out|apply bA|apply bN|apply bD)|exact HB.out))) : w.heap.size ≤ gb186));have n3_:=Ak ((by rw [hg];exact (below_size (by repeat (first|(with_reducible first|exact HB.out|apply bA|apply bN|apply bD)|exact HB.out))) : w.heap.size ≤ gb186));clear HB;have HB:=n0_;have BK186:=n1_;have GW186:=n2_;have GE186:=n3_;clear n0_ n1_ n2_ n3_;clear hb hbox hg;have hcz35_0 : w34.cell? ⟨gb186,0,none⟩ = some (.int .i64 a1_0):=(kC BK186.out 0).trans rfl;have hcz35_1 : w34.cell? ⟨gb186,1,none⟩ = some (.int .i64 a1_1):=(kC BK186.out 1).trans rfl;have hcz35_2 : w34.cell? ⟨gb186,2,none⟩ = some (.int .i64 a1_2):=(kC BK186.out 2).trans rfl;have hcz35_3 : w34.cell? ⟨gb186,3,none⟩ = some (.int .i64 a1_3):=(kC BK186.out 3).trans rfl;have hfz35_0:=blk_frozen BK186.out 0;have hfz35_1:=blk_frozen BK186.out 1;have hfz35_2:=blk_frozen BK186.out 2;have hfz35_3:=blk_frozen BK186.out 3)|((with_reducible refine gate_callee (f:=26) rfl ?_);refine goesL_ (some 6) rfl rfl Try.func26 (by kernel_rfl) rfl #[.agg #[.int .i64 a1_0,.int .i64 a1_1,.int .i64 a1_2,.int .i64 a1_3]] rfl (by (try simp only [List.map_toArray,List.map_cons,List.map_nil]);first|done|rfl|(simp only [List.length_drop,List.length_take];rfl)) ?_;(with_reducible refine (gazetteerref09_Box.calls a1_0 a1_1 a1_2 a1_3 true _ A3.out).mono ?_);rintro e w36 ⟨rfl,hb⟩;refine ⟨_,rfl,?_⟩;have n0_:=Ak (kB (g:=gb186) (o:=.cells #[.int .i64 a1_0,.int .i64 a1_1,.int .i64 a1_2,.int .i64 a1_3] 36 (0,0)) (by (with_reducible repeat (first|refine kN ?_ _|refine kD ?_|refine kA ?_ _));exact BK186.out) hb);have n1_:=Ak (below_step (by repeat (first|(with_reducible first|exact HB.out|apply bA|apply bN|apply bD|refine bS ?_ GE186.out)|exact HB.out)) hb);clear BK186;clear HB;have BK186:=n0_;have HB:=n1_;clear n0_ n1_;(try clear hb);(try clear hb2);(try clear hk);(try clear hi);have hcz37_0 : w36.cell? ⟨gb186,0,none⟩ = some (.int .i64 a1_0):=(kC BK186.out 0).trans rfl;have hcz37_1 : w36.cell? ⟨gb186,1,none⟩ = some (.int .i64 a1_1):=(kC BK186.out 1).trans rfl;have hcz37_2 : w36.cell? ⟨gb186,2,none⟩ = some (.int .i64 a1_2):=(kC BK186.out 2).trans rfl;have hcz37_3 : w36.cell? ⟨gb186,3,none⟩ = some (.int .i64 a1_3):=(kC BK186.out 3).trans rfl;have hfz37_0:=blk_frozen BK186.out 0;have hfz37_1:=blk_frozen BK186.out 1;have hfz37_2:=blk_frozen BK186.out 2;have hfz37_3:=blk_frozen BK186.out 3))
         go_ret
         exact ⟨by first|rfl|(simp [errW_none,errW_some] <;> rfl)|(simp [*,errW_none,errW_some] <;> rfl),by repeat (first|(with_reducible first|exact HB.out|apply bA|apply bN|apply bD|refine bS ?_ GE186.out)|exact HB.out)⟩
      ·rw [if_neg c18] at H
       have c18b0 : (a1_2 == 0) = false:=beq_eq_false_iff_ne.mpr c18
       have c18b1 : (a1_2 != 0) = true:=bne_iff_ne.mpr c18
       by_cases c38 : a0 = 3
       ·rw [if_pos c38] at H
        have c38b0 : (a0 == 3) = true:=beq_iff_eq.mpr c38
        have c38b1 : (a0 != 3) = false:=bne_eq_false_iff_eq.mpr c38
        clear c38
        by_cases c39 : a1_0 = a1_1
        ·rw [if_pos c39] at H
         have c39b0 : (a1_0 == a1_1) = true:=beq_iff_eq.mpr c39
         have c39b1 : (a1_0 != a1_1) = false:=bne_eq_false_iff_eq.mpr c39
         clear c39
         obtain rfl:=Option.some.inj H
         go_enter Try.func70,Try.ntmps70
         go_wp2_with (first|((with_reducible refine gate_dst (N:=3) rfl ?_);refine box_event ?hg (N:=3) ?hd (cs:=#[.int .i64 a1_0,.int .i64 a1_1,.int .i64 a1_2,.int .i64 a1_3]) (t:=36) ?hr ?_;(case hd => rfl);(case hg => rfl);(case hr => first|(go_simp;done)|(go_simp;rfl));intro gb186 hg w40 hbox hb;have n0_:=Ak (below_step (by repeat (first|(with_reducible first|exact HB.out|apply bA|apply bN|apply bD)|exact HB.out)) hb);have n1_:=Ak (hbox);have n2_:=Ak ((by rw [hg];exact (below_size (by repeat (first|(with_reducible first|exact HB.out|apply bA|apply bN|apply bD)|exact HB.out))) : w.heap.size ≤ gb186));have n3_:=Ak ((by rw [hg];exact (below_size (by repeat (first|(with_reducible first|exact HB.out|apply bA|apply bN|apply bD)|exact HB.out))) : w.heap.size ≤ gb186));clear HB;have HB:=n0_;have BK186:=n1_;have GW186:=n2_;have GE186:=n3_;clear n0_ n1_ n2_ n3_;clear hb hbox hg;have hcz41_0 : w40.cell? ⟨gb186,0,none⟩ = some (.int .i64 a1_0):=(kC BK186.out 0).trans rfl;have hcz41_1 : w40.cell? ⟨gb186,1,none⟩ = some (.int .i64 a1_1):=(kC BK186.out 1).trans rfl;have hcz41_2 : w40.cell? ⟨gb186,2,none⟩ = some (.int .i64 a1_2):=(kC BK186.out 2).trans rfl;have hcz41_3 : w40.cell? ⟨gb186,3,none⟩ = some (.int .i64 a1_3):=(kC BK186.out 3).trans rfl;have hfz41_0:=blk_frozen BK186.out 0;have hfz41_1:=blk_frozen BK186.out 1;have hfz41_2:=blk_frozen BK186.out 2;have hfz41_3:=blk_frozen BK186.out 3)|((with_reducible refine gate_callee (f:=26) rfl ?_);refine goesL_ (some 6) rfl rfl Try.func26 (by kernel_rfl) rfl #[.agg #[.int .i64 a1_0,.int .i64 a1_1,.int .i64 a1_2,.int .i64 a1_3]] rfl (by (try simp only [List.map_toArray,List.map_cons,List.map_nil]);first|done|rfl|(simp only [List.length_drop,List.length_take];rfl)) ?_;(with_reducible refine (gazetteerref09_Box.calls a1_0 a1_1 a1_2 a1_3 true _ A3.out).mono ?_);rintro e w42 ⟨rfl,hb⟩;refine ⟨_,rfl,?_⟩;have n0_:=Ak (kB (g:=gb186) (o:=.cells #[.int .i64 a1_0,.int .i64 a1_1,.int .i64 a1_2,.int .i64 a1_3] 36 (0,0)) (by (with_reducible repeat (first|refine kN ?_ _|refine kD ?_|refine kA ?_ _));exact BK186.out) hb);have n1_:=Ak (below_step (by repeat (first|(with_reducible first|exact HB.out|apply bA|apply bN|apply bD|refine bS ?_ GE186.out)|exact HB.out)) hb);clear BK186;clear HB;have BK186:=n0_;have HB:=n1_;clear n0_ n1_;(try clear hb);(try clear hb2);(try clear hk);(try clear hi);have hcz43_0 : w42.cell? ⟨gb186,0,none⟩ = some (.int .i64 a1_0):=(kC BK186.out 0).trans rfl;have hcz43_1 : w42.cell? ⟨gb186,1,none⟩ = some (.int .i64 a1_1):=(kC BK186.out 1).trans rfl;have hcz43_2 : w42.cell? ⟨gb186,2,none⟩ = some (.int .i64 a1_2):=(kC BK186.out 2).trans rfl;have hcz43_3 : w42.cell? ⟨gb186,3,none⟩ = some (.int .i64 a1_3):=(kC BK186.out 3).trans rfl;have hfz43_0:=blk_frozen BK186.out 0;have hfz43_1:=blk_frozen BK186.out 1;have hfz43_2:=blk_frozen BK186.out 2;have hfz43_3:=blk_frozen BK186.out 3))
         go_ret
         exact ⟨by first|rfl|(simp [errW_none,errW_some] <;> rfl)|(simp [*,errW_none,errW_some] <;> rfl),by repeat (first|(with_reducible first|exact HB.out|apply bA|apply bN|apply bD|refine bS ?_ GE186.out)|exact HB.out)⟩
        ·rw [if_neg c39] at H
         have c39b0 : (a1_0 == a1_1) = false:=beq_eq_false_iff_ne.mpr c39
         have c39b1 : (a1_0 != a1_1) = true:=bne_iff_ne.mpr c39
         obtain rfl:=Option.some.inj H
         go_enter Try.func70,Try.ntmps70
         go_wp2_with (first|((with_reducible refine gate_dst (N:=3) rfl ?_);refine box_event ?hg (N:=3) ?hd (cs:=#[.int .i64 a1_0,.int .i64 a1_1,.int .i64 a1_2,.int .i64 a1_3]) (t:=36) ?hr ?_;(case hd => rfl);(case hg => rfl);(case hr => first|(go_simp;done)|(go_simp;rfl));intro gb186 hg w44 hbox hb;have n0_:=Ak (below_step (by repeat (first|(with_reducible first|exact HB.out|apply bA|apply bN|apply bD)|exact HB.out)) hb);have n1_:=Ak (hbox);have n2_:=Ak ((by rw [hg];exact (below_size (by repeat (first|(with_reducible first|exact HB.out|apply bA|apply bN|apply bD)|exact HB.out))) : w.heap.size ≤ gb186));have n3_:=Ak ((by rw [hg];exact (below_size (by repeat (first|(with_reducible first|exact HB.out|apply bA|apply bN|apply bD)|exact HB.out))) : w.heap.size ≤ gb186));clear HB;have HB:=n0_;have BK186:=n1_;have GW186:=n2_;have GE186:=n3_;clear n0_ n1_ n2_ n3_;clear hb hbox hg;have hcz45_0 : w44.cell? ⟨gb186,0,none⟩ = some (.int .i64 a1_0):=(kC BK186.out 0).trans rfl;have hcz45_1 : w44.cell? ⟨gb186,1,none⟩ = some (.int .i64 a1_1):=(kC BK186.out 1).trans rfl;have hcz45_2 : w44.cell? ⟨gb186,2,none⟩ = some (.int .i64 a1_2):=(kC BK186.out 2).trans rfl;have hcz45_3 : w44.cell? ⟨gb186,3,none⟩ = some (.int .i64 a1_3):=(kC BK186.out 3).trans rfl;have hfz45_0:=blk_frozen BK186.out 0;have hfz45_1:=blk_frozen BK186.out 1;have hfz45_2:=blk_frozen BK186.out 2;have hfz45_3:=blk_frozen BK186.out 3)|((with_reducible refine gate_callee (f:=26) rfl ?_);refine goesL_ (some 6) rfl rfl Try.func26 (by kernel_rfl) rfl #[.agg #[.int .i64 a1_0,.int .i64 a1_1,.int .i64 a1_2,.int .i64 a1_3]] rfl (by (try simp only [List.map_toArray,List.map_cons,List.map_nil]);first|done|rfl|(simp only [List.length_drop,List.length_take];rfl)) ?_;(with_reducible refine (gazetteerref09_Box.calls a1_0 a1_1 a1_2 a1_3 true _ A3.out).mono ?_);rintro e w46 ⟨rfl,hb⟩;refine ⟨_,rfl,?_⟩;have n0_:=Ak (kB (g:=gb186) (o:=.cells #[.int .i64 a1_0,.int .i64 a1_1,.int .i64 a1_2,.int .i64 a1_3] 36 (0,0)) (by (with_reducible repeat (first|refine kN ?_ _|refine kD ?_|refine kA ?_ _));exact BK186.out) hb);have n1_:=Ak (below_step (by repeat (first|(with_reducible first|exact HB.out|apply bA|apply bN|apply bD|refine bS ?_ GE186.out)|exact HB.out)) hb);clear BK186;clear HB;have BK186:=n0_;have HB:=n1_;clear n0_ n1_;(try clear hb);(try clear hb2);(try clear hk);(try clear hi);have hcz47_0 : w46.cell? ⟨gb186,0,none⟩ = some (.int .i64 a1_0):=(kC BK186.out 0).trans rfl;have hcz47_1 : w46.cell? ⟨gb186,1,none⟩ = some (.int .i64 a1_1):=(kC BK186.out 1).trans rfl;have hcz47_2 : w46.cell? ⟨gb186,2,none⟩ = some (.int .i64 a1_2):=(kC BK186.out 2).trans rfl;have hcz47_3 : w46.cell? ⟨gb186,3,none⟩ = some (.int .i64 a1_3):=(kC BK186.out 3).trans rfl;have hfz47_0:=blk_frozen BK186.out 0;have hfz47_1:=blk_frozen BK186.out 1;have hfz47_2:=blk_frozen BK186.out 2;have hfz47_3:=blk_frozen BK186.out 3))
         go_ret
         exact ⟨by first|rfl|(simp [errW_none,errW_some] <;> rfl)|(simp [*,errW_none,errW_some] <;> rfl),by repeat (first|(with_reducible first|exact HB.out|apply bA|apply bN|apply bD|refine bS ?_ GE186.out)|exact HB.out)⟩
       ·rw [if_neg c38] at H
        have c38b0 : (a0 == 3) = false:=beq_eq_false_iff_ne.mpr c38
        have c38b1 : (a0 != 3) = true:=bne_iff_ne.mpr c38
        obtain rfl:=Option.some.inj H
        go_enter Try.func70,Try.ntmps70
        go_wp2_with (first|((with_reducible refine gate_dst (N:=3) rfl ?_);refine box_event ?hg (N:=3) ?hd (cs:=#[.int .i64 a1_0,.int .i64 a1_1,.int .i64 a1_2,.int .i64 a1_3]) (t:=36) ?hr ?_;(case hd => rfl);(case hg => rfl);(case hr => first|(go_simp;done)|(go_simp;rfl));intro gb186 hg w48 hbox hb;have n0_:=Ak (below_step (by repeat (first|(with_reducible first|exact HB.out|apply bA|apply bN|apply bD)|exact HB.out)) hb);have n1_:=Ak (hbox);have n2_:=Ak ((by rw [hg];exact (below_size (by repeat (first|(with_reducible first|exact HB.out|apply bA|apply bN|apply bD)|exact HB.out))) : w.heap.size ≤ gb186));have n3_:=Ak ((by rw [hg];exact (below_size (by repeat (first|(with_reducible first|exact HB.out|apply bA|apply bN|apply bD)|exact HB.out))) : w.heap.size ≤ gb186));clear HB;have HB:=n0_;have BK186:=n1_;have GW186:=n2_;have GE186:=n3_;clear n0_ n1_ n2_ n3_;clear hb hbox hg;have hcz49_0 : w48.cell? ⟨gb186,0,none⟩ = some (.int .i64 a1_0):=(kC BK186.out 0).trans rfl;have hcz49_1 : w48.cell? ⟨gb186,1,none⟩ = some (.int .i64 a1_1):=(kC BK186.out 1).trans rfl;have hcz49_2 : w48.cell? ⟨gb186,2,none⟩ = some (.int .i64 a1_2):=(kC BK186.out 2).trans rfl;have hcz49_3 : w48.cell? ⟨gb186,3,none⟩ = some (.int .i64 a1_3):=(kC BK186.out 3).trans rfl;have hfz49_0:=blk_frozen BK186.out 0;have hfz49_1:=blk_frozen BK186.out 1;have hfz49_2:=blk_frozen BK186.out 2;have hfz49_3:=blk_frozen BK186.out 3)|((with_reducible refine gate_callee (f:=26) rfl ?_);refine goesL_ (some 6) rfl rfl Try.func26 (by kernel_rfl) rfl #[.agg #[.int .i64 a1_0,.int .i64 a1_1,.int .i64 a1_2,.int .i64 a1_3]] rfl (by (try simp only [List.map_toArray,List.map_cons,List.map_nil]);first|done|rfl|(simp only [List.length_drop,List.length_take];rfl)) ?_;(with_reducible refine (gazetteerref09_Box.calls a1_0 a1_1 a1_2 a1_3 true _ A3.out).mono ?_);rintro e w50 ⟨rfl,hb⟩;refine ⟨_,rfl,?_⟩;have n0_:=Ak (kB (g:=gb186) (o:=.cells #[.int .i64 a1_0,.int .i64 a1_1,.int .i64 a1_2,.int .i64 a1_3] 36 (0,0)) (by (with_reducible repeat (first|refine kN ?_ _|refine kD ?_|refine kA ?_ _));exact BK186.out) hb);have n1_:=Ak (below_step (by repeat (first|(with_reducible first|exact HB.out|apply bA|apply bN|apply bD|refine bS ?_ GE186.out)|exact HB.out)) hb);clear BK186;clear HB;have BK186:=n0_;have HB:=n1_;clear n0_ n1_;(try clear hb);(try clear hb2);(try clear hk);(try clear hi);have hcz51_0 : w50.cell? ⟨gb186,0,none⟩ = some (.int .i64 a1_0):=(kC BK186.out 0).trans rfl;have hcz51_1 : w50.cell? ⟨gb186,1,none⟩ = some (.int .i64 a1_1):=(kC BK186.out 1).trans rfl;have hcz51_2 : w50.cell? ⟨gb186,2,none⟩ = some (.int .i64 a1_2):=(kC BK186.out 2).trans rfl;have hcz51_3 : w50.cell? ⟨gb186,3,none⟩ = some (.int .i64 a1_3):=(kC BK186.out 3).trans rfl;have hfz51_0:=blk_frozen BK186.out 0;have hfz51_1:=blk_frozen BK186.out 1;have hfz51_2:=blk_frozen BK186.out 2;have hfz51_3:=blk_frozen BK186.out 3))
        go_ret
        exact ⟨by first|rfl|(simp [errW_none,errW_some] <;> rfl)|(simp [*,errW_none,errW_some] <;> rfl),by repeat (first|(with_reducible first|exact HB.out|apply bA|apply bN|apply bD|refine bS ?_ GE186.out)|exact HB.out)⟩
     ·rw [if_neg c17] at H
      have c17b0 : (a0 == 2) = false:=beq_eq_false_iff_ne.mpr c17
      have c17b1 : (a0 != 2) = true:=bne_iff_ne.mpr c17
      by_cases c52 : a0 = 3
      ·rw [if_pos c52] at H
       have c52b0 : (a0 == 3) = true:=beq_iff_eq.mpr c52
       have c52b1 : (a0 != 3) = false:=bne_eq_false_iff_eq.mpr c52
       clear c52
       by_cases c53 : a1_0 = a1_1
       ·rw [if_pos c53] at H
        have c53b0 : (a1_0 == a1_1) = true:=beq_iff_eq.mpr c53
        have c53b1 : (a1_0 != a1_1) = false:=bne_eq_false_iff_eq.mpr c53
        clear c53
        obtain rfl:=Option.some.inj H
        go_enter Try.func70,Try.ntmps70
        go_wp2_with (first|((with_reducible refine gate_dst (N:=3) rfl ?_);refine box_event ?hg (N:=3) ?hd (cs:=#[.int .i64 a1_0,.int .i64 a1_1,.int .i64 a1_2,.int .i64 a1_3]) (t:=36) ?hr ?_;(case hd => rfl);(case hg => rfl);(case hr => first|(go_simp;done)|(go_simp;rfl));intro gb186 hg w54 hbox hb;have n0_:=Ak (below_step (by repeat (first|(with_reducible first|exact HB.out|apply bA|apply bN|apply bD)|exact HB.out)) hb);have n1_:=Ak (hbox);have n2_:=Ak ((by rw [hg];exact (below_size (by repeat (first|(with_reducible first|exact HB.out|apply bA|apply bN|apply bD)|exact HB.out))) : w.heap.size ≤ gb186));have n3_:=Ak ((by rw [hg];exact (below_size (by repeat (first|(with_reducible first|exact HB.out|apply bA|apply bN|apply bD)|exact HB.out))) : w.heap.size ≤ gb186));clear HB;have HB:=n0_;have BK186:=n1_;have GW186:=n2_;have GE186:=n3_;clear n0_ n1_ n2_ n3_;clear hb hbox hg;have hcz55_0 : w54.cell? ⟨gb186,0,none⟩ = some (.int .i64 a1_0):=(kC BK186.out 0).trans rfl;have hcz55_1 : w54.cell? ⟨gb186,1,none⟩ = some (.int .i64 a1_1):=(kC BK186.out 1).trans rfl;have hcz55_2 : w54.cell? ⟨gb186,2,none⟩ = some (.int .i64 a1_2):=(kC BK186.out 2).trans rfl;have hcz55_3 : w54.cell? ⟨gb186,3,none⟩ = some (.int .i64 a1_3):=(kC BK186.out 3).trans rfl;have hfz55_0:=blk_frozen BK186.out 0;have hfz55_1:=blk_frozen BK186.out 1;have hfz55_2:=blk_frozen BK186.out 2;have hfz55_3:=blk_frozen BK186.out 3)|((with_reducible refine gate_callee (f:=26) rfl ?_);refine goesL_ (some 6) rfl rfl Try.func26 (by kernel_rfl) rfl #[.agg #[.int .i64 a1_0,.int .i64 a1_1,.int .i64 a1_2,.int .i64 a1_3]] rfl (by (try simp only [List.map_toArray,List.map_cons,List.map_nil]);first|done|rfl|(simp only [List.length_drop,List.length_take];rfl)) ?_;(with_reducible refine (gazetteerref09_Box.calls a1_0 a1_1 a1_2 a1_3 true _ A3.out).mono ?_);rintro e w56 ⟨rfl,hb⟩;refine ⟨_,rfl,?_⟩;have n0_:=Ak (kB (g:=gb186) (o:=.cells #[.int .i64 a1_0,.int .i64 a1_1,.int .i64 a1_2,.int .i64 a1_3] 36 (0,0)) (by (with_reducible repeat (first|refine kN ?_ _|refine kD ?_|refine kA ?_ _));exact BK186.out) hb);have n1_:=Ak (below_step (by repeat (first|(with_reducible first|exact HB.out|apply bA|apply bN|apply bD|refine bS ?_ GE186.out)|exact HB.out)) hb);clear BK186;clear HB;have BK186:=n0_;have HB:=n1_;clear n0_ n1_;(try clear hb);(try clear hb2);(try clear hk);(try clear hi);have hcz57_0 : w56.cell? ⟨gb186,0,none⟩ = some (.int .i64 a1_0):=(kC BK186.out 0).trans rfl;have hcz57_1 : w56.cell? ⟨gb186,1,none⟩ = some (.int .i64 a1_1):=(kC BK186.out 1).trans rfl;have hcz57_2 : w56.cell? ⟨gb186,2,none⟩ = some (.int .i64 a1_2):=(kC BK186.out 2).trans rfl;have hcz57_3 : w56.cell? ⟨gb186,3,none⟩ = some (.int .i64 a1_3):=(kC BK186.out 3).trans rfl;have hfz57_0:=blk_frozen BK186.out 0;have hfz57_1:=blk_frozen BK186.out 1;have hfz57_2:=blk_frozen BK186.out 2;have hfz57_3:=blk_frozen BK186.out 3))
        go_ret
        exact ⟨by first|rfl|(simp [errW_none,errW_some] <;> rfl)|(simp [*,errW_none,errW_some] <;> rfl),by repeat (first|(with_reducible first|exact HB.out|apply bA|apply bN|apply bD|refine bS ?_ GE186.out)|exact HB.out)⟩
       ·rw [if_neg c53] at H
        have c53b0 : (a1_0 == a1_1) = false:=beq_eq_false_iff_ne.mpr c53
        have c53b1 : (a1_0 != a1_1) = true:=bne_iff_ne.mpr c53
        obtain rfl:=Option.some.inj H
        go_enter Try.func70,Try.ntmps70
        go_wp2_with (first|((with_reducible refine gate_dst (N:=3) rfl ?_);refine box_event ?hg (N:=3) ?hd (cs:=#[.int .i64 a1_0,.int .i64 a1_1,.int .i64 a1_2,.int .i64 a1_3]) (t:=36) ?hr ?_;(case hd => rfl);(case hg => rfl);(case hr => first|(go_simp;done)|(go_simp;rfl));intro gb186 hg w58 hbox hb;have n0_:=Ak (below_step (by repeat (first|(with_reducible first|exact HB.out|apply bA|apply bN|apply bD)|exact HB.out)) hb);have n1_:=Ak (hbox);have n2_:=Ak ((by rw [hg];exact (below_size (by repeat (first|(with_reducible first|exact HB.out|apply bA|apply bN|apply bD)|exact HB.out))) : w.heap.size ≤ gb186));have n3_:=Ak ((by rw [hg];exact (below_size (by repeat (first|(with_reducible first|exact HB.out|apply bA|apply bN|apply bD)|exact HB.out))) : w.heap.size ≤ gb186));clear HB;have HB:=n0_;have BK186:=n1_;have GW186:=n2_;have GE186:=n3_;clear n0_ n1_ n2_ n3_;clear hb hbox hg;have hcz59_0 : w58.cell? ⟨gb186,0,none⟩ = some (.int .i64 a1_0):=(kC BK186.out 0).trans rfl;have hcz59_1 : w58.cell? ⟨gb186,1,none⟩ = some (.int .i64 a1_1):=(kC BK186.out 1).trans rfl;have hcz59_2 : w58.cell? ⟨gb186,2,none⟩ = some (.int .i64 a1_2):=(kC BK186.out 2).trans rfl;have hcz59_3 : w58.cell? ⟨gb186,3,none⟩ = some (.int .i64 a1_3):=(kC BK186.out 3).trans rfl;have hfz59_0:=blk_frozen BK186.out 0;have hfz59_1:=blk_frozen BK186.out 1;have hfz59_2:=blk_frozen BK186.out 2;have hfz59_3:=blk_frozen BK186.out 3)|((with_reducible refine gate_callee (f:=26) rfl ?_);refine goesL_ (some 6) rfl rfl Try.func26 (by kernel_rfl) rfl #[.agg #[.int .i64 a1_0,.int .i64 a1_1,.int .i64 a1_2,.int .i64 a1_3]] rfl (by (try simp only [List.map_toArray,List.map_cons,List.map_nil]);first|done|rfl|(simp only [List.length_drop,List.length_take];rfl)) ?_;(with_reducible refine (gazetteerref09_Box.calls a1_0 a1_1 a1_2 a1_3 true _ A3.out).mono ?_);rintro e w60 ⟨rfl,hb⟩;refine ⟨_,rfl,?_⟩;have n0_:=Ak (kB (g:=gb186) (o:=.cells #[.int .i64 a1_0,.int .i64 a1_1,.int .i64 a1_2,.int .i64 a1_3] 36 (0,0)) (by (with_reducible repeat (first|refine kN ?_ _|refine kD ?_|refine kA ?_ _));exact BK186.out) hb);have n1_:=Ak (below_step (by repeat (first|(with_reducible first|exact HB.out|apply bA|apply bN|apply bD|refine bS ?_ GE186.out)|exact HB.out)) hb);clear BK186;clear HB;have BK186:=n0_;have HB:=n1_;clear n0_ n1_;(try clear hb);(try clear hb2);(try clear hk);(try clear hi);have hcz61_0 : w60.cell? ⟨gb186,0,none⟩ = some (.int .i64 a1_0):=(kC BK186.out 0).trans rfl;have hcz61_1 : w60.cell? ⟨gb186,1,none⟩ = some (.int .i64 a1_1):=(kC BK186.out 1).trans rfl;have hcz61_2 : w60.cell? ⟨gb186,2,none⟩ = some (.int .i64 a1_2):=(kC BK186.out 2).trans rfl;have hcz61_3 : w60.cell? ⟨gb186,3,none⟩ = some (.int .i64 a1_3):=(kC BK186.out 3).trans rfl;have hfz61_0:=blk_frozen BK186.out 0;have hfz61_1:=blk_frozen BK186.out 1;have hfz61_2:=blk_frozen BK186.out 2;have hfz61_3:=blk_frozen BK186.out 3))
        go_ret
        exact ⟨by first|rfl|(simp [errW_none,errW_some] <;> rfl)|(simp [*,errW_none,errW_some] <;> rfl),by repeat (first|(with_reducible first|exact HB.out|apply bA|apply bN|apply bD|refine bS ?_ GE186.out)|exact HB.out)⟩
      ·rw [if_neg c52] at H
       have c52b0 : (a0 == 3) = false:=beq_eq_false_iff_ne.mpr c52
       have c52b1 : (a0 != 3) = true:=bne_iff_ne.mpr c52
       obtain rfl:=Option.some.inj H
       go_enter Try.func70,Try.ntmps70
       go_wp2_with (first|((with_reducible refine gate_dst (N:=3) rfl ?_);refine box_event ?hg (N:=3) ?hd (cs:=#[.int .i64 a1_0,.int .i64 a1_1,.int .i64 a1_2,.int .i64 a1_3]) (t:=36) ?hr ?_;(case hd => rfl);(case hg => rfl);(case hr => first|(go_simp;done)|(go_simp;rfl));intro gb186 hg w62 hbox hb;have n0_:=Ak (below_step (by repeat (first|(with_reducible first|exact HB.out|apply bA|apply bN|apply bD)|exact HB.out)) hb);have n1_:=Ak (hbox);have n2_:=Ak ((by rw [hg];exact (below_size (by repeat (first|(with_reducible first|exact HB.out|apply bA|apply bN|apply bD)|exact HB.out))) : w.heap.size ≤ gb186));have n3_:=Ak ((by rw [hg];exact (below_size (by repeat (first|(with_reducible first|exact HB.out|apply bA|apply bN|apply bD)|exact HB.out))) : w.heap.size ≤ gb186));clear HB;have HB:=n0_;have BK186:=n1_;have GW186:=n2_;have GE186:=n3_;clear n0_ n1_ n2_ n3_;clear hb hbox hg;have hcz63_0 : w62.cell? ⟨gb186,0,none⟩ = some (.int .i64 a1_0):=(kC BK186.out 0).trans rfl;have hcz63_1 : w62.cell? ⟨gb186,1,none⟩ = some (.int .i64 a1_1):=(kC BK186.out 1).trans rfl;have hcz63_2 : w62.cell? ⟨gb186,2,none⟩ = some (.int .i64 a1_2):=(kC BK186.out 2).trans rfl;have hcz63_3 : w62.cell? ⟨gb186,3,none⟩ = some (.int .i64 a1_3):=(kC BK186.out 3).trans rfl;have hfz63_0:=blk_frozen BK186.out 0;have hfz63_1:=blk_frozen BK186.out 1;have hfz63_2:=blk_frozen BK186.out 2;have hfz63_3:=blk_frozen BK186.out 3)|((with_reducible refine gate_callee (f:=26) rfl ?_);refine goesL_ (some 6) rfl rfl Try.func26 (by kernel_rfl) rfl #[.agg #[.int .i64 a1_0,.int .i64 a1_1,.int .i64 a1_2,.int .i64 a1_3]] rfl (by (try simp only [List.map_toArray,List.map_cons,List.map_nil]);first|done|rfl|(simp only [List.length_drop,List.length_take];rfl)) ?_;(with_reducible refine (gazetteerref09_Box.calls a1_0 a1_1 a1_2 a1_3 true _ A3.out).mono ?_);rintro e w64 ⟨rfl,hb⟩;refine ⟨_,rfl,?_⟩;have n0_:=Ak (kB (g:=gb186) (o:=.cells #[.int .i64 a1_0,.int .i64 a1_1,.int .i64 a1_2,.int .i64 a1_3] 36 (0,0)) (by (with_reducible repeat (first|refine kN ?_ _|refine kD ?_|refine kA ?_ _));exact BK186.out) hb);have n1_:=Ak (below_step (by repeat (first|(with_reducible first|exact HB.out|apply bA|apply bN|apply bD|refine bS ?_ GE186.out)|exact HB.out)) hb);clear BK186;clear HB;have BK186:=n0_;have HB:=n1_;clear n0_ n1_;(try clear hb);(try clear hb2);(try clear hk);(try clear hi)))
       go_ret
       exact ⟨by first|rfl|(simp [errW_none,errW_some] <;> rfl)|(simp [*,errW_none,errW_some] <;> rfl),by repeat (first|(with_reducible first|exact HB.out|apply bA|apply bN|apply bD|refine bS ?_ GE186.out)|exact HB.out)⟩
 ·replace c4:=Bool.eq_false_iff.mpr c4
  subst c4
  have H1 : (some false) = some r:=by rw [if_neg (show ¬ (false = true) by decide)] at H;exact H
  clear H
  have H:=H1
  clear H1
  obtain rfl:=Option.some.inj H
  go_enter Try.func70,Try.ntmps70
  go_wp2_with (first|((with_reducible refine gate_dst (N:=3) rfl ?_);refine box_event ?hg (N:=3) ?hd (cs:=#[.int .i64 a1_0,.int .i64 a1_1,.int .i64 a1_2,.int .i64 a1_3]) (t:=36) ?hr ?_;(case hd => rfl);(case hg => rfl);(case hr => first|(go_simp;done)|(go_simp;rfl));intro gb186 hg w65 hbox hb;have n0_:=Ak (below_step (by repeat (first|(with_reducible first|exact HB.out|apply bA|apply bN|apply bD)|exact HB.out)) hb);have n1_:=Ak (hbox);have n2_:=Ak ((by rw [hg];exact (below_size (by repeat (first|(with_reducible first|exact HB.out|apply bA|apply bN|apply bD)|exact HB.out))) : w.heap.size ≤ gb186));have n3_:=Ak ((by rw [hg];exact (below_size (by repeat (first|(with_reducible first|exact HB.out|apply bA|apply bN|apply bD)|exact HB.out))) : w.heap.size ≤ gb186));clear HB;have HB:=n0_;have BK186:=n1_;have GW186:=n2_;have GE186:=n3_;clear n0_ n1_ n2_ n3_;clear hb hbox hg;have hcz66_0 : w65.cell? ⟨gb186,0,none⟩ = some (.int .i64 a1_0):=(kC BK186.out 0).trans rfl;have hcz66_1 : w65.cell? ⟨gb186,1,none⟩ = some (.int .i64 a1_1):=(kC BK186.out 1).trans rfl;have hcz66_2 : w65.cell? ⟨gb186,2,none⟩ = some (.int .i64 a1_2):=(kC BK186.out 2).trans rfl;have hcz66_3 : w65.cell? ⟨gb186,3,none⟩ = some (.int .i64 a1_3):=(kC BK186.out 3).trans rfl;have hfz66_0:=blk_frozen BK186.out 0;have hfz66_1:=blk_frozen BK186.out 1;have hfz66_2:=blk_frozen BK186.out 2;have hfz66_3:=blk_frozen BK186.out 3)|((with_reducible refine gate_callee (f:=26) rfl ?_);refine goesL_ (some 6) rfl rfl Try.func26 (by kernel_rfl) rfl #[.agg #[.int .i64 a1_0,.int .i64 a1_1,.int .i64 a1_2,.int .i64 a1_3]] rfl (by (try simp only [List.map_toArray,List.map_cons,List.map_nil]);first|done|rfl|(simp only [List.length_drop,List.length_take];rfl)) ?_;(with_reducible refine (gazetteerref09_Box.calls a1_0 a1_1 a1_2 a1_3 false _ A3.out).mono ?_);rintro e w67 ⟨rfl,hb⟩;refine ⟨_,rfl,?_⟩;have n0_:=Ak (kB (g:=gb186) (o:=.cells #[.int .i64 a1_0,.int .i64 a1_1,.int .i64 a1_2,.int .i64 a1_3] 36 (0,0)) (by (with_reducible repeat (first|refine kN ?_ _|refine kD ?_|refine kA ?_ _));exact BK186.out) hb);have n1_:=Ak (below_step (by repeat (first|(with_reducible first|exact HB.out|apply bA|apply bN|apply bD|refine bS ?_ GE186.out)|exact HB.out)) hb);clear BK186;clear HB;have BK186:=n0_;have HB:=n1_;clear n0_ n1_;(try clear hb);(try clear hb2);(try clear hk);(try clear hi)))
  go_ret
  exact ⟨by first|rfl|(simp [errW_none,errW_some] <;> rfl)|(simp [*,errW_none,errW_some] <;> rfl),by repeat (first|(with_reducible first|exact HB.out|apply bA|apply bN|apply bD|refine bS ?_ GE186.out)|exact HB.out)⟩
def gazetteerref22_There.l0 : Nat → Int → List (S51) → Int → Int → Option (Bool)
  | 0, _, _, _, _ => none
  | k + 1, x1, x8, x9, x10 => if x10 < x9 then (if 0 ≤ x10 then (if x10 < (x8.length : Int) then (if ((rd_T51 x8 x10).f0) = x1 then (some true) else (gazetteerref22_There.l0 k x1 x8 x9 (wrap64 (x10 + 1)))) else (none)) else (none)) else (some false)
def gazetteerref22_There.f (k : Nat) (l0_0 : List (S51)) (a1 : Int) : Option (Bool) := gazetteerref22_There.l0 k a1 l0_0 (l0_0.length : Int) 0
set_option maxHeartbeats 8000000 in
set_option maxRecDepth 100000 in
theorem gazetteerref22_There.calls (k : Nat) (A0_0 : Option Addr) (c0_0 : Nat) (l0_0 : List (S51)) (a1 : Int) (r : Bool) (w : World) (hr0_0 : Kd.C k51 w A0_0 l0_0.length l0_0) (hc0_0 : l0_0.length ≤ c0_0) (h : gazetteerref22_There.f k l0_0 a1 = some r) :
  Calls Try.prog 71 #[.agg #[.slice A0_0 l0_0.length c0_0],.int .u32 a1] w fun e w' => e = .returned (.bool r)∧Below w.heap.size w w':=by
 have hu24:=Try.underlying24
 have hu51:=Try.underlying51
 have HR0_0:=Ak hr0_0
 have HC0_0:=Ak hc0_0
 clear hr0_0 hc0_0
 have HB:=Ak (Below.refl w.heap.size w)
 have H : (gazetteerref22_There.l0 k a1 l0_0 (l0_0.length : Int) 0) = some r:=h
 clear h
 have H':=Ak H
 clear H
 go_enter Try.func71,Try.ntmps71
 go_wp2_with (first|((with_reducible refine gate_dst (N:=2) rfl ?_);refine box_event ?hg (N:=2) ?hd (cs:=#[.slice A0_0 l0_0.length c0_0]) (t:=24) ?hr ?_;(case hd => rfl);(case hg => rfl);(case hr => first|(go_simp;done)|(go_simp;rfl));intro gb188 hg w3 hbox hb;have n0_:=Ak (below_step (by repeat (first|(with_reducible first|exact HB.out|apply bA|apply bN|apply bD)|exact HB.out)) hb);have n1_:=Ak (hbox);have n2_:=Ak ((by rw [hg];exact (below_size (by repeat (first|(with_reducible first|exact HB.out|apply bA|apply bN|apply bD)|exact HB.out))) : w.heap.size ≤ gb188));have n3_:=Ak ((by rw [hg];exact (below_size (by repeat (first|(with_reducible first|exact HB.out|apply bA|apply bN|apply bD)|exact HB.out))) : w.heap.size ≤ gb188));clear HB;have HB:=n0_;have BK188:=n1_;have GW188:=n2_;have GE188:=n3_;clear n0_ n1_ n2_ n3_;clear hb hbox hg;have hcz4_0 : w3.cell? ⟨gb188,0,none⟩ = some (.slice A0_0 l0_0.length c0_0):=(kC BK188.out 0).trans rfl;have hfz4_0:=blk_frozen BK188.out 0))
 go_loopg [10] k (fun kq v10 w' => ∃ (x10_1 : Int),v10 = .int .i64 x10_1∧Aside0 (gazetteerref22_There.l0 kq a1 l0_0 (l0_0.length : Int) x10_1 = some r)∧Aside0 (kq ≤ k)∧Aside0 (w'.heap[gb188]? = some (.cells #[(.slice A0_0 l0_0.length c0_0)] 24 (0,0)))∧Aside0 (Below w.heap.size w w'))
 case atStart => exact ⟨(0),(by first|rfl|(simp;done)|(simp [*];done)),H',⟨Nat.le_refl _⟩,⟨by (with_reducible repeat (first|refine kN ?_ _|refine kD ?_|refine kA ?_ _));exact BK188.out⟩,⟨by repeat (first|(with_reducible first|exact HB.out|apply bA|apply bN|apply bD|refine bS ?_ GE188.out)|exact HB.out)⟩⟩
 case round =>
  clear H'
  try clear p2
  try clear hcz4_0
  try clear hfz4_0
  obtain ⟨x10_1,rfl,HA,HK1,BK188,HB⟩:=hrel
  cases gk with
  | zero => exact absurd HA.out (by simp [gazetteerref22_There.l0])
  | succ k1 =>
   have H:=HA.out
   clear HA
   simp only [gazetteerref22_There.l0] at H
   by_cases c5 : x10_1 < (l0_0.length : Int)
   ·rw [if_pos c5] at H
    have c5b0 : decide (x10_1 < (l0_0.length : Int)) = true:=decide_eq_true c5
    clear c5
    by_cases c6 : 0 ≤ x10_1
    ·rw [if_pos c6] at H
     have c6b0 : decide (0 ≤ x10_1) = true:=decide_eq_true c6
     clear c6
     by_cases c7 : x10_1 < (l0_0.length : Int)
     ·rw [if_pos c7] at H
      have c7b0 : decide (x10_1 < (l0_0.length : Int)) = true:=decide_eq_true c7
      clear c7
      by_cases c8 : ((rd_T51 l0_0 x10_1).f0) = a1
      ·rw [if_pos c8] at H
       have c8b0 : (((rd_T51 l0_0 x10_1).f0) == a1) = true:=beq_iff_eq.mpr c8
       have c8b1 : (((rd_T51 l0_0 x10_1).f0) != a1) = false:=bne_eq_false_iff_eq.mpr c8
       clear c8
       obtain rfl:=Option.some.inj H
       have p189 : 0 ≤ (x10_1 : Int):=of_decide_eq_true (by first|(with_reducible assumption)|assumption)
       have q189 : x10_1 < (l0_0.length : Int):=of_decide_eq_true (by first|(with_reducible assumption)|assumption)
       obtain ⟨ad189,e189,hx189_0,hx189_1,hx189_2,hx189_3,hx189_4,hx189_5⟩:=at_T51 HR0_0.out x10_1 p189 q189
       cases e189
       replace hx189_0:=(HB.out.cell (World.block_lt_of_cell? w _ hx189_0)).trans hx189_0
       replace hx189_1:=(HB.out.cell (World.block_lt_of_cell? w _ hx189_1)).trans hx189_1
       replace hx189_2:=(HB.out.cell (World.block_lt_of_cell? w _ hx189_2)).trans hx189_2
       replace hx189_3:=(HB.out.cell (World.block_lt_of_cell? w _ hx189_3)).trans hx189_3
       replace hx189_4:=(HB.out.cell (World.block_lt_of_cell? w _ hx189_4)).trans hx189_4
       replace hx189_5:=(HB.out.cell (World.block_lt_of_cell? w _ hx189_5)).trans hx189_5
       replace p189:=eq_true p189
       replace q189:=eq_true q189
       go_wp2_with (first|((with_reducible refine gate_dst (N:=6) rfl ?_);refine box_event ?hg (N:=6) ?hd (cs:=#[.int .u32 0,.int .i64 0,.int .i64 0,.int .i64 0,.int .i64 0,.int .i64 0]) (t:=51) ?hr ?_;(case hd => rfl);(case hg => rfl);(case hr => first|(go_simp;done)|(go_simp;rfl));intro gb190 hg w9 hbox hb;have n0_:=Ak (kB (g:=gb188) (o:=.cells #[.slice (some ad189) l0_0.length c0_0] 24 (0,0)) (by (with_reducible repeat (first|refine kN ?_ _|refine kD ?_|refine kA ?_ _));exact BK188.out) hb);have n1_:=Ak (below_step (by repeat (first|(with_reducible first|exact HB.out|apply bA|apply bN|apply bD|refine bS ?_ GE188.out)|exact HB.out)) hb);have n2_:=Ak (hbox);have n3_:=Ak ((by rw [hg];exact (below_size (by repeat (first|(with_reducible first|exact HB.out|apply bA|apply bN|apply bD|refine bS ?_ GE188.out)|exact HB.out))) : w.heap.size ≤ gb190));have n4_:=Ak ((by rw [hg];exact (below_size (by repeat (first|(with_reducible first|exact HB.out|apply bA|apply bN|apply bD|refine bS ?_ GE188.out)|exact HB.out))) : w.heap.size ≤ gb190));have n5_:=Ak ((by rw [hg];exact Nat.ne_of_lt (blk_lt (g:=gb188) (o:=.cells #[.slice (some ad189) l0_0.length c0_0] 24 (0,0)) (by (with_reducible repeat (first|refine kN ?_ _|refine kD ?_|refine kA ?_ _));exact BK188.out)) : gb188 ≠ gb190));have n6_:=Ak ((by rw [hg];exact Nat.ne_of_gt (blk_lt (g:=gb188) (o:=.cells #[.slice (some ad189) l0_0.length c0_0] 24 (0,0)) (by (with_reducible repeat (first|refine kN ?_ _|refine kD ?_|refine kA ?_ _));exact BK188.out)) : gb190 ≠ gb188));clear BK188;clear HB;have BK188:=n0_;have HB:=n1_;have BK190:=n2_;have GW190:=n3_;have GE190:=n4_;have NB188_190:=n5_;have NB190_188:=n6_;clear n0_ n1_ n2_ n3_ n4_ n5_ n6_;clear hb hbox hg;have hnb10:=NB190_188.out;have hnc10:=NB188_190.out;have hcz11_0 : w9.cell? ⟨gb190,0,none⟩ = some (.int .u32 0):=(kC BK190.out 0).trans rfl;have hcz11_1 : w9.cell? ⟨gb190,1,none⟩ = some (.int .i64 0):=(kC BK190.out 1).trans rfl;have hcz11_2 : w9.cell? ⟨gb190,2,none⟩ = some (.int .i64 0):=(kC BK190.out 2).trans rfl;have hcz11_3 : w9.cell? ⟨gb190,3,none⟩ = some (.int .i64 0):=(kC BK190.out 3).trans rfl;have hcz11_4 : w9.cell? ⟨gb190,4,none⟩ = some (.int .i64 0):=(kC BK190.out 4).trans rfl;have hcz11_5 : w9.cell? ⟨gb190,5,none⟩ = some (.int .i64 0):=(kC BK190.out 5).trans rfl;have hfz11_0:=blk_frozen BK190.out 0;have hfz11_1:=blk_frozen BK190.out 1;have hfz11_2:=blk_frozen BK190.out 2;have hfz11_3:=blk_frozen BK190.out 3;have hfz11_4:=blk_frozen BK190.out 4;have hfz11_5:=blk_frozen BK190.out 5))
       go_ret
       exact ⟨by first|rfl|(simp [errW_none,errW_some] <;> rfl)|(simp [*,errW_none,errW_some] <;> rfl),by repeat (first|(with_reducible first|exact HB.out|apply bA|apply bN|apply bD|refine bS ?_ GE188.out|refine bS ?_ GE190.out)|exact HB.out)⟩
      ·rw [if_neg c8] at H
       have c8b0 : (((rd_T51 l0_0 x10_1).f0) == a1) = false:=beq_eq_false_iff_ne.mpr c8
       have c8b1 : (((rd_T51 l0_0 x10_1).f0) != a1) = true:=bne_iff_ne.mpr c8
       have H':=Ak H
       clear H
       have p189 : 0 ≤ (x10_1 : Int):=of_decide_eq_true (by first|(with_reducible assumption)|assumption)
       have q189 : x10_1 < (l0_0.length : Int):=of_decide_eq_true (by first|(with_reducible assumption)|assumption)
       obtain ⟨ad189,e189,hx189_0,hx189_1,hx189_2,hx189_3,hx189_4,hx189_5⟩:=at_T51 HR0_0.out x10_1 p189 q189
       cases e189
       replace hx189_0:=(HB.out.cell (World.block_lt_of_cell? w _ hx189_0)).trans hx189_0
       replace hx189_1:=(HB.out.cell (World.block_lt_of_cell? w _ hx189_1)).trans hx189_1
       replace hx189_2:=(HB.out.cell (World.block_lt_of_cell? w _ hx189_2)).trans hx189_2
       replace hx189_3:=(HB.out.cell (World.block_lt_of_cell? w _ hx189_3)).trans hx189_3
       replace hx189_4:=(HB.out.cell (World.block_lt_of_cell? w _ hx189_4)).trans hx189_4
       replace hx189_5:=(HB.out.cell (World.block_lt_of_cell? w _ hx189_5)).trans hx189_5
       replace p189:=eq_true p189
       replace q189:=eq_true q189
       go_wp2_with (first|((with_reducible refine gate_dst (N:=6) rfl ?_);refine box_event ?hg (N:=6) ?hd (cs:=#[.int .u32 0,.int .i64 0,.int .i64 0,.int .i64 0,.int .i64 0,.int .i64 0]) (t:=51) ?hr ?_;(case hd => rfl);(case hg => rfl);(case hr => first|(go_simp;done)|(go_simp;rfl));intro gb190 hg w12 hbox hb;have n0_:=Ak (kB (g:=gb188) (o:=.cells #[.slice (some ad189) l0_0.length c0_0] 24 (0,0)) (by (with_reducible repeat (first|refine kN ?_ _|refine kD ?_|refine kA ?_ _));exact BK188.out) hb);have n1_:=Ak (below_step (by repeat (first|(with_reducible first|exact HB.out|apply bA|apply bN|apply bD|refine bS ?_ GE188.out)|exact HB.out)) hb);have n2_:=Ak (hbox);have n3_:=Ak ((by rw [hg];exact (below_size (by repeat (first|(with_reducible first|exact HB.out|apply bA|apply bN|apply bD|refine bS ?_ GE188.out)|exact HB.out))) : w.heap.size ≤ gb190));have n4_:=Ak ((by rw [hg];exact (below_size (by repeat (first|(with_reducible first|exact HB.out|apply bA|apply bN|apply bD|refine bS ?_ GE188.out)|exact HB.out))) : w.heap.size ≤ gb190));have n5_:=Ak ((by rw [hg];exact Nat.ne_of_lt (blk_lt (g:=gb188) (o:=.cells #[.slice (some ad189) l0_0.length c0_0] 24 (0,0)) (by (with_reducible repeat (first|refine kN ?_ _|refine kD ?_|refine kA ?_ _));exact BK188.out)) : gb188 ≠ gb190));have n6_:=Ak ((by rw [hg];exact Nat.ne_of_gt (blk_lt (g:=gb188) (o:=.cells #[.slice (some ad189) l0_0.length c0_0] 24 (0,0)) (by (with_reducible repeat (first|refine kN ?_ _|refine kD ?_|refine kA ?_ _));exact BK188.out)) : gb190 ≠ gb188));clear BK188;clear HB;have BK188:=n0_;have HB:=n1_;have BK190:=n2_;have GW190:=n3_;have GE190:=n4_;have NB188_190:=n5_;have NB190_188:=n6_;clear n0_ n1_ n2_ n3_ n4_ n5_ n6_;clear hb hbox hg;have hnb13:=NB190_188.out;have hnc13:=NB188_190.out;have hcz14_0 : w12.cell? ⟨gb190,0,none⟩ = some (.int .u32 0):=(kC BK190.out 0).trans rfl;have hcz14_1 : w12.cell? ⟨gb190,1,none⟩ = some (.int .i64 0):=(kC BK190.out 1).trans rfl;have hcz14_2 : w12.cell? ⟨gb190,2,none⟩ = some (.int .i64 0):=(kC BK190.out 2).trans rfl;have hcz14_3 : w12.cell? ⟨gb190,3,none⟩ = some (.int .i64 0):=(kC BK190.out 3).trans rfl;have hcz14_4 : w12.cell? ⟨gb190,4,none⟩ = some (.int .i64 0):=(kC BK190.out 4).trans rfl;have hcz14_5 : w12.cell? ⟨gb190,5,none⟩ = some (.int .i64 0):=(kC BK190.out 5).trans rfl;have hfz14_0:=blk_frozen BK190.out 0;have hfz14_1:=blk_frozen BK190.out 1;have hfz14_2:=blk_frozen BK190.out 2;have hfz14_3:=blk_frozen BK190.out 3;have hfz14_4:=blk_frozen BK190.out 4;have hfz14_5:=blk_frozen BK190.out 5))
       go_roundg k1
       case measure => have:=HK1.out;omega
       case rel => exact ⟨(wrap64 (x10_1+1)),(by first|rfl|(simp;done)|(simp [*];done)),H',⟨by have:=HK1.out;omega⟩,⟨by (with_reducible repeat (first|refine kN ?_ _|refine kD ?_|refine kA ?_ _));refine blk_far ?_ NB188_190.out _;(with_reducible repeat (first|refine kN ?_ _|refine kD ?_|refine kA ?_ _));refine blk_far ?_ NB188_190.out _;(with_reducible repeat (first|refine kN ?_ _|refine kD ?_|refine kA ?_ _));refine blk_far ?_ NB188_190.out _;(with_reducible repeat (first|refine kN ?_ _|refine kD ?_|refine kA ?_ _));refine blk_far ?_ NB188_190.out _;(with_reducible repeat (first|refine kN ?_ _|refine kD ?_|refine kA ?_ _));refine blk_far ?_ NB188_190.out _;(with_reducible repeat (first|refine kN ?_ _|refine kD ?_|refine kA ?_ _));refine blk_far ?_ NB188_190.out _;(with_reducible repeat (first|refine kN ?_ _|refine kD ?_|refine kA ?_ _));exact BK188.out⟩,⟨by repeat (first|(with_reducible first|exact HB.out|apply bA|apply bN|apply bD|refine bS ?_ GE188.out|refine bS ?_ GE190.out)|exact HB.out)⟩⟩
     ·rw [if_neg c7] at H
      exact absurd H (by simp)
    ·rw [if_neg c6] at H
     exact absurd H (by simp)
   ·rw [if_neg c5] at H
    have c5b0 : decide (x10_1 < (l0_0.length : Int)) = false:=decide_eq_false c5
    clear c5
    obtain rfl:=Option.some.inj H
    go_wp2
    go_ret
    exact ⟨by first|rfl|(simp [errW_none,errW_some] <;> rfl)|(simp [*,errW_none,errW_some] <;> rfl),by repeat (first|(with_reducible first|exact HB.out|apply bA|apply bN|apply bD|refine bS ?_ GE188.out)|exact HB.out)⟩
def gazetteerref22_wrong.j0 : Nat → Int → Int → Bool → List (S51) → Int → Bool → Int → Int → Int → Int → Int → Int → Option (Int)
  | 0, _, _, _, _, _, _, _, _, _, _, _, _ => none
  | k + 1, x1, x8, x9, x192000, x193000, x193001, x193002, x193003, x193004, x193005, x193006, x193007 => if x9 = true then (some 0) else (if x8 = 2 then (if x193002 = 0 then (some 2) else ((gazetteerref09_Right.f x1 x193003 x193004 x193005 x193006).bind fun t193 => (if t193 = true then ((gazetteerref22_There.f k x192000 x193002).bind fun t194 => (if t194 = true then (some 5) else (if (x192000.length : Int) = 128 then (some 6) else (some 0)))) else (some 314)))) else (if x8 = 3 then (if x193002 = 0 then (some 2) else ((gazetteerref22_There.f k x192000 x193002).bind fun t195 => (if t195 = true then (some 0) else (some 4)))) else (if x8 = 4 then ((gazetteerref09_Box.f x193003 x193004 x193005 x193006).bind fun t196 => (if t196 = true then (some 0) else (some 314))) else (some 2))))
def gazetteerref22_wrong.f (k : Nat) (l0_0 : List (S51)) (a1 : Int) (a2_0 : Int) (a2_1 : Bool) (a2_2 : Int) (a2_3 : Int) (a2_4 : Int) (a2_5 : Int) (a2_6 : Int) (a2_7 : Int) : Option (Int) := if a2_0 = 1 then (gazetteerref22_wrong.j0 k a1 a2_0 (a2_0 == 1) l0_0 a2_0 a2_1 a2_2 a2_3 a2_4 a2_5 a2_6 a2_7) else (if a2_0 = 5 then (gazetteerref22_wrong.j0 k a1 a2_0 (a2_0 == 5) l0_0 a2_0 a2_1 a2_2 a2_3 a2_4 a2_5 a2_6 a2_7) else (gazetteerref22_wrong.j0 k a1 a2_0 (a2_0 == 6) l0_0 a2_0 a2_1 a2_2 a2_3 a2_4 a2_5 a2_6 a2_7))
set_option maxHeartbeats 8000000 in
set_option maxRecDepth 100000 in
theorem gazetteerref22_wrong.calls (k : Nat) (A0_0 : Option Addr) (c0_0 : Nat) (l0_0 : List (S51)) (a1 : Int) (a2_0 : Int) (a2_1 : Bool) (a2_2 : Int) (a2_3 : Int) (a2_4 : Int) (a2_5 : Int) (a2_6 : Int) (a2_7 : Int) (r : Int) (w : World) (hr0_0 : Kd.C k51 w A0_0 l0_0.length l0_0) (hc0_0 : l0_0.length ≤ c0_0) (h : gazetteerref22_wrong.f k l0_0 a1 a2_0 a2_1 a2_2 a2_3 a2_4 a2_5 a2_6 a2_7 = some r) :
  Calls Try.prog 45 #[.agg #[.slice A0_0 l0_0.length c0_0],.int .i64 a1,.agg #[.int .i64 a2_0,.bool a2_1,.int .u32 a2_2,.int .i64 a2_3,.int .i64 a2_4,.int .i64 a2_5,.int .i64 a2_6,.int .i64 a2_7]] w fun e w' => e = .returned (.int .i64 r)∧Below w.heap.size w w':=by
 have hu24:=Try.underlying24
 have hu38:=Try.underlying38
 have hu36:=Try.underlying36
 have HR0_0:=Ak hr0_0
 have HC0_0:=Ak hc0_0
 clear hr0_0 hc0_0
 have HB:=Ak (Below.refl w.heap.size w)
 have H : (if a2_0 = 1 then (gazetteerref22_wrong.j0 k a1 a2_0 (a2_0 == 1) l0_0 a2_0 a2_1 a2_2 a2_3 a2_4 a2_5 a2_6 a2_7) else (if a2_0 = 5 then (gazetteerref22_wrong.j0 k a1 a2_0 (a2_0 == 5) l0_0 a2_0 a2_1 a2_2 a2_3 a2_4 a2_5 a2_6 a2_7) else (gazetteerref22_wrong.j0 k a1 a2_0 (a2_0 == 6) l0_0 a2_0 a2_1 a2_2 a2_3 a2_4 a2_5 a2_6 a2_7))) = some r:=h
 clear h
 have HC4:=Ak H
 clear H
 go_enter Try.func45,Try.ntmps45
 go_upto_if 9 with (first|((with_reducible refine gate_dst (N:=3) rfl ?_);refine box_event ?hg (N:=3) ?hd (cs:=#[.slice A0_0 l0_0.length c0_0]) (t:=24) ?hr ?_;(case hd => rfl);(case hg => rfl);(case hr => first|(go_simp;done)|(go_simp;rfl));intro gb191 hg w5 hbox hb;have n0_:=Ak (below_step (by repeat (first|(with_reducible first|exact HB.out|apply bA|apply bN|apply bD)|exact HB.out)) hb);have n1_:=Ak (hbox);have n2_:=Ak ((by rw [hg];exact (below_size (by repeat (first|(with_reducible first|exact HB.out|apply bA|apply bN|apply bD)|exact HB.out))) : w.heap.size ≤ gb191));have n3_:=Ak ((by rw [hg];exact (below_size (by repeat (first|(with_reducible first|exact HB.out|apply bA|apply bN|apply bD)|exact HB.out))) : w.heap.size ≤ gb191));clear HB;have HB:=n0_;have BK191:=n1_;have GW191:=n2_;have GE191:=n3_;clear n0_ n1_ n2_ n3_;clear hb hbox hg)|((with_reducible refine gate_dst (N:=5) rfl ?_);refine box_event ?hg (N:=5) ?hd (cs:=#[.int .i64 a2_0,.bool a2_1,.int .u32 a2_2,.int .i64 a2_3,.int .i64 a2_4,.int .i64 a2_5,.int .i64 a2_6,.int .i64 a2_7]) (t:=38) ?hr ?_;(case hd => rfl);(case hg => rfl);(case hr => first|(go_simp;done)|(go_simp;rfl));intro gb192 hg w6 hbox hb;have n0_:=Ak (kB (g:=gb191) (o:=.cells #[.slice A0_0 l0_0.length c0_0] 24 (0,0)) (by (with_reducible repeat (first|refine kN ?_ _|refine kD ?_|refine kA ?_ _));exact BK191.out) hb);have n1_:=Ak (below_step (by repeat (first|(with_reducible first|exact HB.out|apply bA|apply bN|apply bD|refine bS ?_ GE191.out)|exact HB.out)) hb);have n2_:=Ak (hbox);have n3_:=Ak ((by rw [hg];exact (below_size (by repeat (first|(with_reducible first|exact HB.out|apply bA|apply bN|apply bD|refine bS ?_ GE191.out)|exact HB.out))) : w.heap.size ≤ gb192));have n4_:=Ak ((by rw [hg];exact (below_size (by repeat (first|(with_reducible first|exact HB.out|apply bA|apply bN|apply bD|refine bS ?_ GE191.out)|exact HB.out))) : w.heap.size ≤ gb192));have n5_:=Ak ((by rw [hg];exact Nat.ne_of_lt (blk_lt (g:=gb191) (o:=.cells #[.slice A0_0 l0_0.length c0_0] 24 (0,0)) (by (with_reducible repeat (first|refine kN ?_ _|refine kD ?_|refine kA ?_ _));exact BK191.out)) : gb191 ≠ gb192));have n6_:=Ak ((by rw [hg];exact Nat.ne_of_gt (blk_lt (g:=gb191) (o:=.cells #[.slice A0_0 l0_0.length c0_0] 24 (0,0)) (by (with_reducible repeat (first|refine kN ?_ _|refine kD ?_|refine kA ?_ _));exact BK191.out)) : gb192 ≠ gb191));clear BK191;clear HB;have BK191:=n0_;have HB:=n1_;have BK192:=n2_;have GW192:=n3_;have GE192:=n4_;have NB191_192:=n5_;have NB192_191:=n6_;clear n0_ n1_ n2_ n3_ n4_ n5_ n6_;clear hb hbox hg;have hnb7:=NB192_191.out;have hnc7:=NB191_192.out;have hcz8_0 : w6.cell? ⟨gb192,0,none⟩ = some (.int .i64 a2_0):=(kC BK192.out 0).trans rfl;have hcz8_1 : w6.cell? ⟨gb192,1,none⟩ = some (.bool a2_1):=(kC BK192.out 1).trans rfl;have hcz8_2 : w6.cell? ⟨gb192,2,none⟩ = some (.int .u32 a2_2):=(kC BK192.out 2).trans rfl;have hcz8_3 : w6.cell? ⟨gb192,3,none⟩ = some (.int .i64 a2_3):=(kC BK192.out 3).trans rfl;have hcz8_4 : w6.cell? ⟨gb192,4,none⟩ = some (.int .i64 a2_4):=(kC BK192.out 4).trans rfl;have hcz8_5 : w6.cell? ⟨gb192,5,none⟩ = some (.int .i64 a2_5):=(kC BK192.out 5).trans rfl;have hcz8_6 : w6.cell? ⟨gb192,6,none⟩ = some (.int .i64 a2_6):=(kC BK192.out 6).trans rfl;have hcz8_7 : w6.cell? ⟨gb192,7,none⟩ = some (.int .i64 a2_7):=(kC BK192.out 7).trans rfl;have hfz8_0:=blk_frozen BK192.out 0;have hfz8_1:=blk_frozen BK192.out 1;have hfz8_2:=blk_frozen BK192.out 2;have hfz8_3:=blk_frozen BK192.out 3;have hfz8_4:=blk_frozen BK192.out 4;have hfz8_5:=blk_frozen BK192.out 5;have hfz8_6:=blk_frozen BK192.out 6;have hfz8_7:=blk_frozen BK192.out 7))
 (try simp only [Act.put,sA,sZ,sS])
 go_cut [9] (fun v9 wc => ∃ (kq : Nat) (x9_3 : Bool),v9 = .bool x9_3∧Aside0 (gazetteerref22_wrong.j0 kq a1 a2_0 x9_3 l0_0 a2_0 a2_1 a2_2 a2_3 a2_4 a2_5 a2_6 a2_7 = some r)∧Aside0 (kq ≤ k)∧Aside0 (wc.heap[gb191]? = some (.cells #[(.slice A0_0 l0_0.length c0_0)] 24 (0,0)))∧Aside0 (wc.heap[gb192]? = some (.cells #[.int .i64 a2_0,.bool a2_1,.int .u32 a2_2,.int .i64 a2_3,.int .i64 a2_4,.int .i64 a2_5,.int .i64 a2_6,.int .i64 a2_7] 38 (0,0)))∧Aside0 (Below w.heap.size w wc))
 case first =>
  have H:=HC4.out
  clear HC4
  by_cases c9 : a2_0 = 1
  ·rw [if_pos c9] at H
   have c9b0 : (a2_0 == 1) = true:=beq_iff_eq.mpr c9
   have c9b1 : (a2_0 != 1) = false:=bne_eq_false_iff_eq.mpr c9
   clear c9
   (first|rw [c9b0]|(simp only [i64_w,i32_w];rw [c9b0])|skip)
   have H':=Ak H
   clear H
   go_wp2
   go_meet
   case rel => exact ⟨_,((a2_0 == 1)),(by first|rfl|(simp;done)|(simp [*];done)),H',⟨by first|omega|exact Nat.le_refl _⟩,⟨by (with_reducible repeat (first|refine kN ?_ _|refine kD ?_|refine kA ?_ _));exact BK191.out⟩,⟨by (with_reducible repeat (first|refine kN ?_ _|refine kD ?_|refine kA ?_ _));exact BK192.out⟩,⟨by repeat (first|(with_reducible first|exact HB.out|apply bA|apply bN|apply bD|refine bS ?_ GE191.out|refine bS ?_ GE192.out)|exact HB.out)⟩⟩
  ·rw [if_neg c9] at H
   have c9b0 : (a2_0 == 1) = false:=beq_eq_false_iff_ne.mpr c9
   have c9b1 : (a2_0 != 1) = true:=bne_iff_ne.mpr c9
   (first|rw [c9b0]|(simp only [i64_w,i32_w];rw [c9b0])|skip)
   by_cases c10 : a2_0 = 5
   ·rw [if_pos c10] at H
    have c10b0 : (a2_0 == 5) = true:=beq_iff_eq.mpr c10
    have c10b1 : (a2_0 != 5) = false:=bne_eq_false_iff_eq.mpr c10
    clear c10
    have H':=Ak H
    clear H
    go_wp2
    go_meet
    case rel => exact ⟨_,((a2_0 == 5)),(by first|rfl|(simp;done)|(simp [*];done)),H',⟨by first|omega|exact Nat.le_refl _⟩,⟨by (with_reducible repeat (first|refine kN ?_ _|refine kD ?_|refine kA ?_ _));exact BK191.out⟩,⟨by (with_reducible repeat (first|refine kN ?_ _|refine kD ?_|refine kA ?_ _));exact BK192.out⟩,⟨by repeat (first|(with_reducible first|exact HB.out|apply bA|apply bN|apply bD|refine bS ?_ GE191.out|refine bS ?_ GE192.out)|exact HB.out)⟩⟩
   ·rw [if_neg c10] at H
    have c10b0 : (a2_0 == 5) = false:=beq_eq_false_iff_ne.mpr c10
    have c10b1 : (a2_0 != 5) = true:=bne_iff_ne.mpr c10
    have H':=Ak H
    clear H
    go_wp2
    go_meet
    case rel => exact ⟨_,((a2_0 == 6)),(by first|rfl|(simp;done)|(simp [*];done)),H',⟨by first|omega|exact Nat.le_refl _⟩,⟨by (with_reducible repeat (first|refine kN ?_ _|refine kD ?_|refine kA ?_ _));exact BK191.out⟩,⟨by (with_reducible repeat (first|refine kN ?_ _|refine kD ?_|refine kA ?_ _));exact BK192.out⟩,⟨by repeat (first|(with_reducible first|exact HB.out|apply bA|apply bN|apply bD|refine bS ?_ GE191.out|refine bS ?_ GE192.out)|exact HB.out)⟩⟩
 case rest =>
  clear HC4
  try clear c1
  try clear p2
  try clear c4
  try clear c7
  try clear c9
  try clear c9b0
  try clear c9b1
  try clear c10
  try clear c10b0
  try clear c10b1
  try clear hcz8_0
  try clear hcz8_1
  try clear hcz8_2
  try clear hcz8_3
  try clear hcz8_4
  try clear hcz8_5
  try clear hcz8_6
  try clear hcz8_7
  try clear hfz8_0
  try clear hfz8_1
  try clear hfz8_2
  try clear hfz8_3
  try clear hfz8_4
  try clear hfz8_5
  try clear hfz8_6
  try clear hfz8_7
  obtain ⟨kq,x9_3,rfl,HA,HJ3,BK191,BK192,HB⟩:=hcut
  cases kq with
  | zero => exact absurd HA.out (by simp [gazetteerref22_wrong.j0])
  | succ kj3 =>
   have H:=HA.out
   clear HA
   simp only [gazetteerref22_wrong.j0] at H
   by_cases c11 : x9_3 = true
   ·subst c11
    have H1 : (some 0) = some r:=by rw [if_pos rfl] at H;exact H
    clear H
    have H:=H1
    clear H1
    obtain rfl:=Option.some.inj H
    go_wp2
    go_ret
    exact ⟨by first|rfl|(simp [errW_none,errW_some] <;> rfl)|(simp [*,errW_none,errW_some] <;> rfl),by repeat (first|(with_reducible first|exact HB.out|apply bA|apply bN|apply bD|refine bS ?_ GE191.out|refine bS ?_ GE192.out)|exact HB.out)⟩
   ·replace c11:=Bool.eq_false_iff.mpr c11
    subst c11
    have H1 : (if a2_0 = 2 then (if a2_2 = 0 then (some 2) else ((gazetteerref09_Right.f a1 a2_3 a2_4 a2_5 a2_6).bind fun t193 => (if t193 = true then ((gazetteerref22_There.f kj3 l0_0 a2_2).bind fun t194 => (if t194 = true then (some 5) else (if (l0_0.length : Int) = 128 then (some 6) else (some 0)))) else (some 314)))) else (if a2_0 = 3 then (if a2_2 = 0 then (some 2) else ((gazetteerref22_There.f kj3 l0_0 a2_2).bind fun t195 => (if t195 = true then (some 0) else (some 4)))) else (if a2_0 = 4 then ((gazetteerref09_Box.f a2_3 a2_4 a2_5 a2_6).bind fun t196 => (if t196 = true then (some 0) else (some 314))) else (some 2)))) = some r:=by rw [if_neg (show ¬ (false = true) by decide)] at H;exact H
    clear H
    have H:=H1
    clear H1
    by_cases c12 : a2_0 = 2
    ·rw [if_pos c12] at H
     have c12b0 : (a2_0 == 2) = true:=beq_iff_eq.mpr c12
     have c12b1 : (a2_0 != 2) = false:=bne_eq_false_iff_eq.mpr c12
     clear c12
     by_cases c13 : a2_2 = 0
     ·rw [if_pos c13] at H
      have c13b0 : (a2_2 == 0) = true:=beq_iff_eq.mpr c13
      have c13b1 : (a2_2 != 0) = false:=bne_eq_false_iff_eq.mpr c13
      clear c13
      obtain rfl:=Option.some.inj H
      have hnb14:=NB192_191.out
      have hnc14:=NB191_192.out
      have hcz15_0 : wc.cell? ⟨gb192,0,none⟩ = some (.int .i64 a2_0):=(kC BK192.out 0).trans rfl
      have hcz15_1 : wc.cell? ⟨gb192,1,none⟩ = some (.bool a2_1):=(kC BK192.out 1).trans rfl
      have hcz15_2 : wc.cell? ⟨gb192,2,none⟩ = some (.int .u32 a2_2):=(kC BK192.out 2).trans rfl
      have hcz15_3 : wc.cell? ⟨gb192,3,none⟩ = some (.int .i64 a2_3):=(kC BK192.out 3).trans rfl
      have hcz15_4 : wc.cell? ⟨gb192,4,none⟩ = some (.int .i64 a2_4):=(kC BK192.out 4).trans rfl
      have hcz15_5 : wc.cell? ⟨gb192,5,none⟩ = some (.int .i64 a2_5):=(kC BK192.out 5).trans rfl
      have hcz15_6 : wc.cell? ⟨gb192,6,none⟩ = some (.int .i64 a2_6):=(kC BK192.out 6).trans rfl
      have hcz15_7 : wc.cell? ⟨gb192,7,none⟩ = some (.int .i64 a2_7):=(kC BK192.out 7).trans rfl
      have hfz15_0:=blk_frozen BK192.out 0
      have hfz15_1:=blk_frozen BK192.out 1
      have hfz15_2:=blk_frozen BK192.out 2
      have hfz15_3:=blk_frozen BK192.out 3
      have hfz15_4:=blk_frozen BK192.out 4
      have hfz15_5:=blk_frozen BK192.out 5
      have hfz15_6:=blk_frozen BK192.out 6
      have hfz15_7:=blk_frozen BK192.out 7
      go_wp2
      go_ret
      exact ⟨by first|rfl|(simp [errW_none,errW_some] <;> rfl)|(simp [*,errW_none,errW_some] <;> rfl),by repeat (first|(with_reducible first|exact HB.out|apply bA|apply bN|apply bD|refine bS ?_ GE191.out|refine bS ?_ GE192.out)|exact HB.out)⟩
     ·rw [if_neg c13] at H
      have c13b0 : (a2_2 == 0) = false:=beq_eq_false_iff_ne.mpr c13
      have c13b1 : (a2_2 != 0) = true:=bne_iff_ne.mpr c13
      replace H:=Option.bind_eq_some_iff.mp H
      obtain ⟨t193,A160,H⟩:=H
      replace H : (if t193 = true then ((gazetteerref22_There.f kj3 l0_0 a2_2).bind fun t194 => (if t194 = true then (some 5) else (if (l0_0.length : Int) = 128 then (some 6) else (some 0)))) else (some 314)) = some r:=H
      have A16:=Ak A160
      clear A160
      by_cases c17 : t193 = true
      ·subst c17
       have H1 : ((gazetteerref22_There.f kj3 l0_0 a2_2).bind fun t194 => (if t194 = true then (some 5) else (if (l0_0.length : Int) = 128 then (some 6) else (some 0)))) = some r:=by rw [if_pos rfl] at H;exact H
       clear H
       have H:=H1
       clear H1
       replace H:=Option.bind_eq_some_iff.mp H
       obtain ⟨t194,A180,H⟩:=H
       replace H : (if t194 = true then (some 5) else (if (l0_0.length : Int) = 128 then (some 6) else (some 0))) = some r:=H
       have A18:=Ak A180
       clear A180
       by_cases c19 : t194 = true
       ·subst c19
        have H1 : (some 5) = some r:=by rw [if_pos rfl] at H;exact H
        clear H
        have H:=H1
        clear H1
        obtain rfl:=Option.some.inj H
        have hnb20:=NB192_191.out
        have hnc20:=NB191_192.out
        have hcz21_0 : wc.cell? ⟨gb192,0,none⟩ = some (.int .i64 a2_0):=(kC BK192.out 0).trans rfl
        have hcz21_1 : wc.cell? ⟨gb192,1,none⟩ = some (.bool a2_1):=(kC BK192.out 1).trans rfl
        have hcz21_2 : wc.cell? ⟨gb192,2,none⟩ = some (.int .u32 a2_2):=(kC BK192.out 2).trans rfl
        have hcz21_3 : wc.cell? ⟨gb192,3,none⟩ = some (.int .i64 a2_3):=(kC BK192.out 3).trans rfl
        have hcz21_4 : wc.cell? ⟨gb192,4,none⟩ = some (.int .i64 a2_4):=(kC BK192.out 4).trans rfl
        have hcz21_5 : wc.cell? ⟨gb192,5,none⟩ = some (.int .i64 a2_5):=(kC BK192.out 5).trans rfl
        have hcz21_6 : wc.cell? ⟨gb192,6,none⟩ = some (.int .i64 a2_6):=(kC BK192.out 6).trans rfl
        have hcz21_7 : wc.cell? ⟨gb192,7,none⟩ = some (.int .i64 a2_7):=(kC BK192.out 7).trans rfl
        have hfz21_0:=blk_frozen BK192.out 0
        have hfz21_1:=blk_frozen BK192.out 1
        have hfz21_2:=blk_frozen BK192.out 2
        have hfz21_3:=blk_frozen BK192.out 3
        have hfz21_4:=blk_frozen BK192.out 4
        have hfz21_5:=blk_frozen BK192.out 5
        have hfz21_6:=blk_frozen BK192.out 6
        have hfz21_7:=blk_frozen BK192.out 7
        go_wp2_with (first|((with_reducible refine gate_callee (f:=70) rfl ?_);refine goesL_ (some 23) rfl rfl Try.func70 (by kernel_rfl) rfl #[.int .i64 a1,.agg #[.int .i64 a2_3,.int .i64 a2_4,.int .i64 a2_5,.int .i64 a2_6]] rfl (by (try simp only [List.map_toArray,List.map_cons,List.map_nil]);first|done|rfl|(simp only [List.length_drop,List.length_take];rfl)) ?_;(with_reducible refine (gazetteerref09_Right.calls a1 a2_3 a2_4 a2_5 a2_6 true _ A16.out).mono ?_);rintro e w22 ⟨rfl,hb⟩;refine ⟨_,rfl,?_⟩;have n0_:=Ak (kB (g:=gb191) (o:=.cells #[.slice A0_0 l0_0.length c0_0] 24 (0,0)) (by (with_reducible repeat (first|refine kN ?_ _|refine kD ?_|refine kA ?_ _));exact BK191.out) hb);have n1_:=Ak (kB (g:=gb192) (o:=.cells #[.int .i64 a2_0,.bool a2_1,.int .u32 a2_2,.int .i64 a2_3,.int .i64 a2_4,.int .i64 a2_5,.int .i64 a2_6,.int .i64 a2_7] 38 (0,0)) (by (with_reducible repeat (first|refine kN ?_ _|refine kD ?_|refine kA ?_ _));exact BK192.out) hb);have n2_:=Ak (below_step (by repeat (first|(with_reducible first|exact HB.out|apply bA|apply bN|apply bD|refine bS ?_ GE191.out|refine bS ?_ GE192.out)|exact HB.out)) hb);clear BK191;clear BK192;clear HB;have BK191:=n0_;have BK192:=n1_;have HB:=n2_;clear n0_ n1_ n2_;(try clear hb);(try clear hb2);(try clear hk);(try clear hi);have hcz23_0 : w22.cell? ⟨gb191,0,none⟩ = some (.slice A0_0 l0_0.length c0_0):=(kC BK191.out 0).trans rfl;have hfz23_0:=blk_frozen BK191.out 0;have hcz24_0 : w22.cell? ⟨gb192,0,none⟩ = some (.int .i64 a2_0):=(kC BK192.out 0).trans rfl;have hcz24_1 : w22.cell? ⟨gb192,1,none⟩ = some (.bool a2_1):=(kC BK192.out 1).trans rfl;have hcz24_2 : w22.cell? ⟨gb192,2,none⟩ = some (.int .u32 a2_2):=(kC BK192.out 2).trans rfl;have hcz24_3 : w22.cell? ⟨gb192,3,none⟩ = some (.int .i64 a2_3):=(kC BK192.out 3).trans rfl;have hcz24_4 : w22.cell? ⟨gb192,4,none⟩ = some (.int .i64 a2_4):=(kC BK192.out 4).trans rfl;have hcz24_5 : w22.cell? ⟨gb192,5,none⟩ = some (.int .i64 a2_5):=(kC BK192.out 5).trans rfl;have hcz24_6 : w22.cell? ⟨gb192,6,none⟩ = some (.int .i64 a2_6):=(kC BK192.out 6).trans rfl;have hcz24_7 : w22.cell? ⟨gb192,7,none⟩ = some (.int .i64 a2_7):=(kC BK192.out 7).trans rfl;have hfz24_0:=blk_frozen BK192.out 0;have hfz24_1:=blk_frozen BK192.out 1;have hfz24_2:=blk_frozen BK192.out 2;have hfz24_3:=blk_frozen BK192.out 3;have hfz24_4:=blk_frozen BK192.out 4;have hfz24_5:=blk_frozen BK192.out 5;have hfz24_6:=blk_frozen BK192.out 6;have hfz24_7:=blk_frozen BK192.out 7)|((with_reducible refine gate_callee (f:=71) rfl ?_);refine goesL_ (some 29) rfl rfl Try.func71 (by kernel_rfl) rfl #[.agg #[.slice A0_0 l0_0.length c0_0],.int .u32 a2_2] rfl (by (try simp only [List.map_toArray,List.map_cons,List.map_nil]);first|done|rfl|(simp only [List.length_drop,List.length_take];rfl)) ?_;(with_reducible refine (gazetteerref22_There.calls kj3 _ _ l0_0 a2_2 true _ ?side1 ?side2 A18.out).mono ?_);(case side1 => repeat (first|exact (Kd.C_below HR0_0.out HB.out)|(with_reducible refine Kd.C_alloc ?_ _)|(with_reducible refine Kd.C_drewN ?_ _)|(with_reducible refine Kd.C_drew ?_)));(case side2 => exact HC0_0.out);rintro e w25 ⟨rfl,hb⟩;refine ⟨_,rfl,?_⟩;have n0_:=Ak (kB (g:=gb191) (o:=.cells #[.slice A0_0 l0_0.length c0_0] 24 (0,0)) (by (with_reducible repeat (first|refine kN ?_ _|refine kD ?_|refine kA ?_ _));exact BK191.out) hb);have n1_:=Ak (kB (g:=gb192) (o:=.cells #[.int .i64 a2_0,.bool a2_1,.int .u32 a2_2,.int .i64 a2_3,.int .i64 a2_4,.int .i64 a2_5,.int .i64 a2_6,.int .i64 a2_7] 38 (0,0)) (by (with_reducible repeat (first|refine kN ?_ _|refine kD ?_|refine kA ?_ _));exact BK192.out) hb);have n2_:=Ak (below_step (by repeat (first|(with_reducible first|exact HB.out|apply bA|apply bN|apply bD|refine bS ?_ GE191.out|refine bS ?_ GE192.out)|exact HB.out)) hb);clear BK191;clear BK192;clear HB;have BK191:=n0_;have BK192:=n1_;have HB:=n2_;clear n0_ n1_ n2_;(try clear hb);(try clear hb2);(try clear hk);(try clear hi)))
        go_ret
        exact ⟨by first|rfl|(simp [errW_none,errW_some] <;> rfl)|(simp [*,errW_none,errW_some] <;> rfl),by repeat (first|(with_reducible first|exact HB.out|apply bA|apply bN|apply bD|refine bS ?_ GE191.out|refine bS ?_ GE192.out)|exact HB.out)⟩
       ·replace c19:=Bool.eq_false_iff.mpr c19
        subst c19
        have H1 : (if (l0_0.length : Int) = 128 then (some 6) else (some 0)) = some r:=by rw [if_neg (show ¬ (false = true) by decide)] at H;exact H
        clear H
        have H:=H1
        clear H1
        by_cases c26 : (l0_0.length : Int) = 128
        ·rw [if_pos c26] at H
         have c26b0 : ((l0_0.length : Int) == 128) = true:=beq_iff_eq.mpr c26
         have c26b1 : ((l0_0.length : Int) != 128) = false:=bne_eq_false_iff_eq.mpr c26
         clear c26
         obtain rfl:=Option.some.inj H
         have hnb27:=NB192_191.out
         have hnc27:=NB191_192.out
         have hcz28_0 : wc.cell? ⟨gb192,0,none⟩ = some (.int .i64 a2_0):=(kC BK192.out 0).trans rfl
         have hcz28_1 : wc.cell? ⟨gb192,1,none⟩ = some (.bool a2_1):=(kC BK192.out 1).trans rfl
         have hcz28_2 : wc.cell? ⟨gb192,2,none⟩ = some (.int .u32 a2_2):=(kC BK192.out 2).trans rfl
         have hcz28_3 : wc.cell? ⟨gb192,3,none⟩ = some (.int .i64 a2_3):=(kC BK192.out 3).trans rfl
         have hcz28_4 : wc.cell? ⟨gb192,4,none⟩ = some (.int .i64 a2_4):=(kC BK192.out 4).trans rfl
         have hcz28_5 : wc.cell? ⟨gb192,5,none⟩ = some (.int .i64 a2_5):=(kC BK192.out 5).trans rfl
         have hcz28_6 : wc.cell? ⟨gb192,6,none⟩ = some (.int .i64 a2_6):=(kC BK192.out 6).trans rfl
         have hcz28_7 : wc.cell? ⟨gb192,7,none⟩ = some (.int .i64 a2_7):=(kC BK192.out 7).trans rfl
         have hfz28_0:=blk_frozen BK192.out 0
         have hfz28_1:=blk_frozen BK192.out 1
         have hfz28_2:=blk_frozen BK192.out 2
         have hfz28_3:=blk_frozen BK192.out 3
         have hfz28_4:=blk_frozen BK192.out 4
         have hfz28_5:=blk_frozen BK192.out 5
         have hfz28_6:=blk_frozen BK192.out 6
         have hfz28_7:=blk_frozen BK192.out 7
         go_wp2_with (first|((with_reducible refine gate_callee (f:=70) rfl ?_);refine goesL_ (some 23) rfl rfl Try.func70 (by kernel_rfl) rfl #[.int .i64 a1,.agg #[.int .i64 a2_3,.int .i64 a2_4,.int .i64 a2_5,.int .i64 a2_6]] rfl (by (try simp only [List.map_toArray,List.map_cons,List.map_nil]);first|done|rfl|(simp only [List.length_drop,List.length_take];rfl)) ?_;(with_reducible refine (gazetteerref09_Right.calls a1 a2_3 a2_4 a2_5 a2_6 true _ A16.out).mono ?_);rintro e w29 ⟨rfl,hb⟩;refine ⟨_,rfl,?_⟩;have n0_:=Ak (kB (g:=gb191) (o:=.cells #[.slice A0_0 l0_0.length c0_0] 24 (0,0)) (by (with_reducible repeat (first|refine kN ?_ _|refine kD ?_|refine kA ?_ _));exact BK191.out) hb);have n1_:=Ak (kB (g:=gb192) (o:=.cells #[.int .i64 a2_0,.bool a2_1,.int .u32 a2_2,.int .i64 a2_3,.int .i64 a2_4,.int .i64 a2_5,.int .i64 a2_6,.int .i64 a2_7] 38 (0,0)) (by (with_reducible repeat (first|refine kN ?_ _|refine kD ?_|refine kA ?_ _));exact BK192.out) hb);have n2_:=Ak (below_step (by repeat (first|(with_reducible first|exact HB.out|apply bA|apply bN|apply bD|refine bS ?_ GE191.out|refine bS ?_ GE192.out)|exact HB.out)) hb);clear BK191;clear BK192;clear HB;have BK191:=n0_;have BK192:=n1_;have HB:=n2_;clear n0_ n1_ n2_;(try clear hb);(try clear hb2);(try clear hk);(try clear hi);have hcz30_0 : w29.cell? ⟨gb191,0,none⟩ = some (.slice A0_0 l0_0.length c0_0):=(kC BK191.out 0).trans rfl;have hfz30_0:=blk_frozen BK191.out 0;have hcz31_0 : w29.cell? ⟨gb192,0,none⟩ = some (.int .i64 a2_0):=(kC BK192.out 0).trans rfl;have hcz31_1 : w29.cell? ⟨gb192,1,none⟩ = some (.bool a2_1):=(kC BK192.out 1).trans rfl;have hcz31_2 : w29.cell? ⟨gb192,2,none⟩ = some (.int .u32 a2_2):=(kC BK192.out 2).trans rfl;have hcz31_3 : w29.cell? ⟨gb192,3,none⟩ = some (.int .i64 a2_3):=(kC BK192.out 3).trans rfl;have hcz31_4 : w29.cell? ⟨gb192,4,none⟩ = some (.int .i64 a2_4):=(kC BK192.out 4).trans rfl;have hcz31_5 : w29.cell? ⟨gb192,5,none⟩ = some (.int .i64 a2_5):=(kC BK192.out 5).trans rfl;have hcz31_6 : w29.cell? ⟨gb192,6,none⟩ = some (.int .i64 a2_6):=(kC BK192.out 6).trans rfl;have hcz31_7 : w29.cell? ⟨gb192,7,none⟩ = some (.int .i64 a2_7):=(kC BK192.out 7).trans rfl;have hfz31_0:=blk_frozen BK192.out 0;have hfz31_1:=blk_frozen BK192.out 1;have hfz31_2:=blk_frozen BK192.out 2;have hfz31_3:=blk_frozen BK192.out 3;have hfz31_4:=blk_frozen BK192.out 4;have hfz31_5:=blk_frozen BK192.out 5;have hfz31_6:=blk_frozen BK192.out 6;have hfz31_7:=blk_frozen BK192.out 7)|((with_reducible refine gate_callee (f:=71) rfl ?_);refine goesL_ (some 29) rfl rfl Try.func71 (by kernel_rfl) rfl #[.agg #[.slice A0_0 l0_0.length c0_0],.int .u32 a2_2] rfl (by (try simp only [List.map_toArray,List.map_cons,List.map_nil]);first|done|rfl|(simp only [List.length_drop,List.length_take];rfl)) ?_;(with_reducible refine (gazetteerref22_There.calls kj3 _ _ l0_0 a2_2 false _ ?side1 ?side2 A18.out).mono ?_);(case side1 => repeat (first|exact (Kd.C_below HR0_0.out HB.out)|(with_reducible refine Kd.C_alloc ?_ _)|(with_reducible refine Kd.C_drewN ?_ _)|(with_reducible refine Kd.C_drew ?_)));(case side2 => exact HC0_0.out);rintro e w32 ⟨rfl,hb⟩;refine ⟨_,rfl,?_⟩;have n0_:=Ak (kB (g:=gb191) (o:=.cells #[.slice A0_0 l0_0.length c0_0] 24 (0,0)) (by (with_reducible repeat (first|refine kN ?_ _|refine kD ?_|refine kA ?_ _));exact BK191.out) hb);have n1_:=Ak (kB (g:=gb192) (o:=.cells #[.int .i64 a2_0,.bool a2_1,.int .u32 a2_2,.int .i64 a2_3,.int .i64 a2_4,.int .i64 a2_5,.int .i64 a2_6,.int .i64 a2_7] 38 (0,0)) (by (with_reducible repeat (first|refine kN ?_ _|refine kD ?_|refine kA ?_ _));exact BK192.out) hb);have n2_:=Ak (below_step (by repeat (first|(with_reducible first|exact HB.out|apply bA|apply bN|apply bD|refine bS ?_ GE191.out|refine bS ?_ GE192.out)|exact HB.out)) hb);clear BK191;clear BK192;clear HB;have BK191:=n0_;have BK192:=n1_;have HB:=n2_;clear n0_ n1_ n2_;(try clear hb);(try clear hb2);(try clear hk);(try clear hi);have hcz33_0 : w32.cell? ⟨gb191,0,none⟩ = some (.slice A0_0 l0_0.length c0_0):=(kC BK191.out 0).trans rfl;have hfz33_0:=blk_frozen BK191.out 0))
         go_ret
         exact ⟨by first|rfl|(simp [errW_none,errW_some] <;> rfl)|(simp [*,errW_none,errW_some] <;> rfl),by repeat (first|(with_reducible first|exact HB.out|apply bA|apply bN|apply bD|refine bS ?_ GE191.out|refine bS ?_ GE192.out)|exact HB.out)⟩
        ·rw [if_neg c26] at H
         have c26b0 : ((l0_0.length : Int) == 128) = false:=beq_eq_false_iff_ne.mpr c26
         have c26b1 : ((l0_0.length : Int) != 128) = true:=bne_iff_ne.mpr c26
         obtain rfl:=Option.some.inj H
         have hnb34:=NB192_191.out
         have hnc34:=NB191_192.out
         have hcz35_0 : wc.cell? ⟨gb192,0,none⟩ = some (.int .i64 a2_0):=(kC BK192.out 0).trans rfl
         have hcz35_1 : wc.cell? ⟨gb192,1,none⟩ = some (.bool a2_1):=(kC BK192.out 1).trans rfl
         have hcz35_2 : wc.cell? ⟨gb192,2,none⟩ = some (.int .u32 a2_2):=(kC BK192.out 2).trans rfl
         have hcz35_3 : wc.cell? ⟨gb192,3,none⟩ = some (.int .i64 a2_3):=(kC BK192.out 3).trans rfl
         have hcz35_4 : wc.cell? ⟨gb192,4,none⟩ = some (.int .i64 a2_4):=(kC BK192.out 4).trans rfl
         have hcz35_5 : wc.cell? ⟨gb192,5,none⟩ = some (.int .i64 a2_5):=(kC BK192.out 5).trans rfl
         have hcz35_6 : wc.cell? ⟨gb192,6,none⟩ = some (.int .i64 a2_6):=(kC BK192.out 6).trans rfl
         have hcz35_7 : wc.cell? ⟨gb192,7,none⟩ = some (.int .i64 a2_7):=(kC BK192.out 7).trans rfl
         have hfz35_0:=blk_frozen BK192.out 0
         have hfz35_1:=blk_frozen BK192.out 1
         have hfz35_2:=blk_frozen BK192.out 2
         have hfz35_3:=blk_frozen BK192.out 3
         have hfz35_4:=blk_frozen BK192.out 4
         have hfz35_5:=blk_frozen BK192.out 5
         have hfz35_6:=blk_frozen BK192.out 6
         have hfz35_7:=blk_frozen BK192.out 7
         go_wp2_with (first|((with_reducible refine gate_callee (f:=70) rfl ?_);refine goesL_ (some 23) rfl rfl Try.func70 (by kernel_rfl) rfl #[.int .i64 a1,.agg #[.int .i64 a2_3,.int .i64 a2_4,.int .i64 a2_5,.int .i64 a2_6]] rfl (by (try simp only [List.map_toArray,List.map_cons,List.map_nil]);first|done|rfl|(simp only [List.length_drop,List.length_take];rfl)) ?_;(with_reducible refine (gazetteerref09_Right.calls a1 a2_3 a2_4 a2_5 a2_6 true _ A16.out).mono ?_);rintro e w36 ⟨rfl,hb⟩;refine ⟨_,rfl,?_⟩;have n0_:=Ak (kB (g:=gb191) (o:=.cells #[.slice A0_0 l0_0.length c0_0] 24 (0,0)) (by (with_reducible repeat (first|refine kN ?_ _|refine kD ?_|refine kA ?_ _));exact BK191.out) hb);have n1_:=Ak (kB (g:=gb192) (o:=.cells #[.int .i64 a2_0,.bool a2_1,.int .u32 a2_2,.int .i64 a2_3,.int .i64 a2_4,.int .i64 a2_5,.int .i64 a2_6,.int .i64 a2_7] 38 (0,0)) (by (with_reducible repeat (first|refine kN ?_ _|refine kD ?_|refine kA ?_ _));exact BK192.out) hb);have n2_:=Ak (below_step (by repeat (first|(with_reducible first|exact HB.out|apply bA|apply bN|apply bD|refine bS ?_ GE191.out|refine bS ?_ GE192.out)|exact HB.out)) hb);clear BK191;clear BK192;clear HB;have BK191:=n0_;have BK192:=n1_;have HB:=n2_;clear n0_ n1_ n2_;(try clear hb);(try clear hb2);(try clear hk);(try clear hi);have hcz37_0 : w36.cell? ⟨gb191,0,none⟩ = some (.slice A0_0 l0_0.length c0_0):=(kC BK191.out 0).trans rfl;have hfz37_0:=blk_frozen BK191.out 0;have hcz38_0 : w36.cell? ⟨gb192,0,none⟩ = some (.int .i64 a2_0):=(kC BK192.out 0).trans rfl;have hcz38_1 : w36.cell? ⟨gb192,1,none⟩ = some (.bool a2_1):=(kC BK192.out 1).trans rfl;have hcz38_2 : w36.cell? ⟨gb192,2,none⟩ = some (.int .u32 a2_2):=(kC BK192.out 2).trans rfl;have hcz38_3 : w36.cell? ⟨gb192,3,none⟩ = some (.int .i64 a2_3):=(kC BK192.out 3).trans rfl;have hcz38_4 : w36.cell? ⟨gb192,4,none⟩ = some (.int .i64 a2_4):=(kC BK192.out 4).trans rfl;have hcz38_5 : w36.cell? ⟨gb192,5,none⟩ = some (.int .i64 a2_5):=(kC BK192.out 5).trans rfl;have hcz38_6 : w36.cell? ⟨gb192,6,none⟩ = some (.int .i64 a2_6):=(kC BK192.out 6).trans rfl;have hcz38_7 : w36.cell? ⟨gb192,7,none⟩ = some (.int .i64 a2_7):=(kC BK192.out 7).trans rfl;have hfz38_0:=blk_frozen BK192.out 0;have hfz38_1:=blk_frozen BK192.out 1;have hfz38_2:=blk_frozen BK192.out 2;have hfz38_3:=blk_frozen BK192.out 3;have hfz38_4:=blk_frozen BK192.out 4;have hfz38_5:=blk_frozen BK192.out 5;have hfz38_6:=blk_frozen BK192.out 6;have hfz38_7:=blk_frozen BK192.out 7)|((with_reducible refine gate_callee (f:=71) rfl ?_);refine goesL_ (some 29) rfl rfl Try.func71 (by kernel_rfl) rfl #[.agg #[.slice A0_0 l0_0.length c0_0],.int .u32 a2_2] rfl (by (try simp only [List.map_toArray,List.map_cons,List.map_nil]);first|done|rfl|(simp only [List.length_drop,List.length_take];rfl)) ?_;(with_reducible refine (gazetteerref22_There.calls kj3 _ _ l0_0 a2_2 false _ ?side1 ?side2 A18.out).mono ?_);(case side1 => repeat (first|exact (Kd.C_below HR0_0.out HB.out)|(with_reducible refine Kd.C_alloc ?_ _)|(with_reducible refine Kd.C_drewN ?_ _)|(with_reducible refine Kd.C_drew ?_)));(case side2 => exact HC0_0.out);rintro e w39 ⟨rfl,hb⟩;refine ⟨_,rfl,?_⟩;have n0_:=Ak (kB (g:=gb191) (o:=.cells #[.slice A0_0 l0_0.length c0_0] 24 (0,0)) (by (with_reducible repeat (first|refine kN ?_ _|refine kD ?_|refine kA ?_ _));exact BK191.out) hb);have n1_:=Ak (kB (g:=gb192) (o:=.cells #[.int .i64 a2_0,.bool a2_1,.int .u32 a2_2,.int .i64 a2_3,.int .i64 a2_4,.int .i64 a2_5,.int .i64 a2_6,.int .i64 a2_7] 38 (0,0)) (by (with_reducible repeat (first|refine kN ?_ _|refine kD ?_|refine kA ?_ _));exact BK192.out) hb);have n2_:=Ak (below_step (by repeat (first|(with_reducible first|exact HB.out|apply bA|apply bN|apply bD|refine bS ?_ GE191.out|refine bS ?_ GE192.out)|exact HB.out)) hb);clear BK191;clear BK192;clear HB;have BK191:=n0_;have BK192:=n1_;have HB:=n2_;clear n0_ n1_ n2_;(try clear hb);(try clear hb2);(try clear hk);(try clear hi);have hcz40_0 : w39.cell? ⟨gb191,0,none⟩ = some (.slice A0_0 l0_0.length c0_0):=(kC BK191.out 0).trans rfl;have hfz40_0:=blk_frozen BK191.out 0))
         go_ret
         exact ⟨by first|rfl|(simp [errW_none,errW_some] <;> rfl)|(simp [*,errW_none,errW_some] <;> rfl),by repeat (first|(with_reducible first|exact HB.out|apply bA|apply bN|apply bD|refine bS ?_ GE191.out|refine bS ?_ GE192.out)|exact HB.out)⟩
      ·replace c17:=Bool.eq_false_iff.mpr c17
       subst c17
       have H1 : (some 314) = some r:=by rw [if_neg (show ¬ (false = true) by decide)] at H;exact H
       clear H
       have H:=H1
       clear H1
       obtain rfl:=Option.some.inj H
       have hnb41:=NB192_191.out
       have hnc41:=NB191_192.out
       have hcz42_0 : wc.cell? ⟨gb192,0,none⟩ = some (.int .i64 a2_0):=(kC BK192.out 0).trans rfl
       have hcz42_1 : wc.cell? ⟨gb192,1,none⟩ = some (.bool a2_1):=(kC BK192.out 1).trans rfl
       have hcz42_2 : wc.cell? ⟨gb192,2,none⟩ = some (.int .u32 a2_2):=(kC BK192.out 2).trans rfl
       have hcz42_3 : wc.cell? ⟨gb192,3,none⟩ = some (.int .i64 a2_3):=(kC BK192.out 3).trans rfl
       have hcz42_4 : wc.cell? ⟨gb192,4,none⟩ = some (.int .i64 a2_4):=(kC BK192.out 4).trans rfl
       have hcz42_5 : wc.cell? ⟨gb192,5,none⟩ = some (.int .i64 a2_5):=(kC BK192.out 5).trans rfl
       have hcz42_6 : wc.cell? ⟨gb192,6,none⟩ = some (.int .i64 a2_6):=(kC BK192.out 6).trans rfl
       have hcz42_7 : wc.cell? ⟨gb192,7,none⟩ = some (.int .i64 a2_7):=(kC BK192.out 7).trans rfl
       have hfz42_0:=blk_frozen BK192.out 0
       have hfz42_1:=blk_frozen BK192.out 1
       have hfz42_2:=blk_frozen BK192.out 2
       have hfz42_3:=blk_frozen BK192.out 3
       have hfz42_4:=blk_frozen BK192.out 4
       have hfz42_5:=blk_frozen BK192.out 5
       have hfz42_6:=blk_frozen BK192.out 6
       have hfz42_7:=blk_frozen BK192.out 7
       go_wp2_with (first|((with_reducible refine gate_callee (f:=70) rfl ?_);refine goesL_ (some 23) rfl rfl Try.func70 (by kernel_rfl) rfl #[.int .i64 a1,.agg #[.int .i64 a2_3,.int .i64 a2_4,.int .i64 a2_5,.int .i64 a2_6]] rfl (by (try simp only [List.map_toArray,List.map_cons,List.map_nil]);first|done|rfl|(simp only [List.length_drop,List.length_take];rfl)) ?_;(with_reducible refine (gazetteerref09_Right.calls a1 a2_3 a2_4 a2_5 a2_6 false _ A16.out).mono ?_);rintro e w43 ⟨rfl,hb⟩;refine ⟨_,rfl,?_⟩;have n0_:=Ak (kB (g:=gb191) (o:=.cells #[.slice A0_0 l0_0.length c0_0] 24 (0,0)) (by (with_reducible repeat (first|refine kN ?_ _|refine kD ?_|refine kA ?_ _));exact BK191.out) hb);have n1_:=Ak (kB (g:=gb192) (o:=.cells #[.int .i64 a2_0,.bool a2_1,.int .u32 a2_2,.int .i64 a2_3,.int .i64 a2_4,.int .i64 a2_5,.int .i64 a2_6,.int .i64 a2_7] 38 (0,0)) (by (with_reducible repeat (first|refine kN ?_ _|refine kD ?_|refine kA ?_ _));exact BK192.out) hb);have n2_:=Ak (below_step (by repeat (first|(with_reducible first|exact HB.out|apply bA|apply bN|apply bD|refine bS ?_ GE191.out|refine bS ?_ GE192.out)|exact HB.out)) hb);clear BK191;clear BK192;clear HB;have BK191:=n0_;have BK192:=n1_;have HB:=n2_;clear n0_ n1_ n2_;(try clear hb);(try clear hb2);(try clear hk);(try clear hi)))
       go_ret
       exact ⟨by first|rfl|(simp [errW_none,errW_some] <;> rfl)|(simp [*,errW_none,errW_some] <;> rfl),by repeat (first|(with_reducible first|exact HB.out|apply bA|apply bN|apply bD|refine bS ?_ GE191.out|refine bS ?_ GE192.out)|exact HB.out)⟩
    ·rw [if_neg c12] at H
     have c12b0 : (a2_0 == 2) = false:=beq_eq_false_iff_ne.mpr c12
     have c12b1 : (a2_0 != 2) = true:=bne_iff_ne.mpr c12
     by_cases c44 : a2_0 = 3
     ·rw [if_pos c44] at H
      have c44b0 : (a2_0 == 3) = true:=beq_iff_eq.mpr c44
      have c44b1 : (a2_0 != 3) = false:=bne_eq_false_iff_eq.mpr c44
      clear c44
      by_cases c45 : a2_2 = 0
      ·rw [if_pos c45] at H
       have c45b0 : (a2_2 == 0) = true:=beq_iff_eq.mpr c45
       have c45b1 : (a2_2 != 0) = false:=bne_eq_false_iff_eq.mpr c45
       clear c45
       obtain rfl:=Option.some.inj H
       have hnb46:=NB192_191.out
       have hnc46:=NB191_192.out
       have hcz47_0 : wc.cell? ⟨gb192,0,none⟩ = some (.int .i64 a2_0):=(kC BK192.out 0).trans rfl
       have hcz47_1 : wc.cell? ⟨gb192,1,none⟩ = some (.bool a2_1):=(kC BK192.out 1).trans rfl
       have hcz47_2 : wc.cell? ⟨gb192,2,none⟩ = some (.int .u32 a2_2):=(kC BK192.out 2).trans rfl
       have hcz47_3 : wc.cell? ⟨gb192,3,none⟩ = some (.int .i64 a2_3):=(kC BK192.out 3).trans rfl
       have hcz47_4 : wc.cell? ⟨gb192,4,none⟩ = some (.int .i64 a2_4):=(kC BK192.out 4).trans rfl
       have hcz47_5 : wc.cell? ⟨gb192,5,none⟩ = some (.int .i64 a2_5):=(kC BK192.out 5).trans rfl
       have hcz47_6 : wc.cell? ⟨gb192,6,none⟩ = some (.int .i64 a2_6):=(kC BK192.out 6).trans rfl
       have hcz47_7 : wc.cell? ⟨gb192,7,none⟩ = some (.int .i64 a2_7):=(kC BK192.out 7).trans rfl
       have hfz47_0:=blk_frozen BK192.out 0
       have hfz47_1:=blk_frozen BK192.out 1
       have hfz47_2:=blk_frozen BK192.out 2
       have hfz47_3:=blk_frozen BK192.out 3
       have hfz47_4:=blk_frozen BK192.out 4
       have hfz47_5:=blk_frozen BK192.out 5
       have hfz47_6:=blk_frozen BK192.out 6
       have hfz47_7:=blk_frozen BK192.out 7
       go_wp2
       go_ret
       exact ⟨by first|rfl|(simp [errW_none,errW_some] <;> rfl)|(simp [*,errW_none,errW_some] <;> rfl),by repeat (first|(with_reducible first|exact HB.out|apply bA|apply bN|apply bD|refine bS ?_ GE191.out|refine bS ?_ GE192.out)|exact HB.out)⟩
      ·rw [if_neg c45] at H
       have c45b0 : (a2_2 == 0) = false:=beq_eq_false_iff_ne.mpr c45
       have c45b1 : (a2_2 != 0) = true:=bne_iff_ne.mpr c45
       replace H:=Option.bind_eq_some_iff.mp H
       obtain ⟨t195,A480,H⟩:=H
       replace H : (if t195 = true then (some 0) else (some 4)) = some r:=H
       have A48:=Ak A480
       clear A480
       by_cases c49 : t195 = true
       ·subst c49
        have H1 : (some 0) = some r:=by rw [if_pos rfl] at H;exact H
        clear H
        have H:=H1
        clear H1
        obtain rfl:=Option.some.inj H
        have hnb50:=NB192_191.out
        have hnc50:=NB191_192.out
        have hcz51_0 : wc.cell? ⟨gb192,0,none⟩ = some (.int .i64 a2_0):=(kC BK192.out 0).trans rfl
        have hcz51_1 : wc.cell? ⟨gb192,1,none⟩ = some (.bool a2_1):=(kC BK192.out 1).trans rfl
        have hcz51_2 : wc.cell? ⟨gb192,2,none⟩ = some (.int .u32 a2_2):=(kC BK192.out 2).trans rfl
        have hcz51_3 : wc.cell? ⟨gb192,3,none⟩ = some (.int .i64 a2_3):=(kC BK192.out 3).trans rfl
        have hcz51_4 : wc.cell? ⟨gb192,4,none⟩ = some (.int .i64 a2_4):=(kC BK192.out 4).trans rfl
        have hcz51_5 : wc.cell? ⟨gb192,5,none⟩ = some (.int .i64 a2_5):=(kC BK192.out 5).trans rfl
        have hcz51_6 : wc.cell? ⟨gb192,6,none⟩ = some (.int .i64 a2_6):=(kC BK192.out 6).trans rfl
        have hcz51_7 : wc.cell? ⟨gb192,7,none⟩ = some (.int .i64 a2_7):=(kC BK192.out 7).trans rfl
        have hfz51_0:=blk_frozen BK192.out 0
        have hfz51_1:=blk_frozen BK192.out 1
        have hfz51_2:=blk_frozen BK192.out 2
        have hfz51_3:=blk_frozen BK192.out 3
        have hfz51_4:=blk_frozen BK192.out 4
        have hfz51_5:=blk_frozen BK192.out 5
        have hfz51_6:=blk_frozen BK192.out 6
        have hfz51_7:=blk_frozen BK192.out 7
        have hcz52_0 : wc.cell? ⟨gb191,0,none⟩ = some (.slice A0_0 l0_0.length c0_0):=(kC BK191.out 0).trans rfl
        have hfz52_0:=blk_frozen BK191.out 0
        go_wp2_with (first|((with_reducible refine gate_callee (f:=71) rfl ?_);refine goesL_ (some 45) rfl rfl Try.func71 (by kernel_rfl) rfl #[.agg #[.slice A0_0 l0_0.length c0_0],.int .u32 a2_2] rfl (by (try simp only [List.map_toArray,List.map_cons,List.map_nil]);first|done|rfl|(simp only [List.length_drop,List.length_take];rfl)) ?_;(with_reducible refine (gazetteerref22_There.calls kj3 _ _ l0_0 a2_2 true _ ?side1 ?side2 A48.out).mono ?_);(case side1 => repeat (first|exact (Kd.C_below HR0_0.out HB.out)|(with_reducible refine Kd.C_alloc ?_ _)|(with_reducible refine Kd.C_drewN ?_ _)|(with_reducible refine Kd.C_drew ?_)));(case side2 => exact HC0_0.out);rintro e w53 ⟨rfl,hb⟩;refine ⟨_,rfl,?_⟩;have n0_:=Ak (kB (g:=gb191) (o:=.cells #[.slice A0_0 l0_0.length c0_0] 24 (0,0)) (by (with_reducible repeat (first|refine kN ?_ _|refine kD ?_|refine kA ?_ _));exact BK191.out) hb);have n1_:=Ak (kB (g:=gb192) (o:=.cells #[.int .i64 a2_0,.bool a2_1,.int .u32 a2_2,.int .i64 a2_3,.int .i64 a2_4,.int .i64 a2_5,.int .i64 a2_6,.int .i64 a2_7] 38 (0,0)) (by (with_reducible repeat (first|refine kN ?_ _|refine kD ?_|refine kA ?_ _));exact BK192.out) hb);have n2_:=Ak (below_step (by repeat (first|(with_reducible first|exact HB.out|apply bA|apply bN|apply bD|refine bS ?_ GE191.out|refine bS ?_ GE192.out)|exact HB.out)) hb);clear BK191;clear BK192;clear HB;have BK191:=n0_;have BK192:=n1_;have HB:=n2_;clear n0_ n1_ n2_;(try clear hb);(try clear hb2);(try clear hk);(try clear hi)))
        go_ret
        exact ⟨by first|rfl|(simp [errW_none,errW_some] <;> rfl)|(simp [*,errW_none,errW_some] <;> rfl),by repeat (first|(with_reducible first|exact HB.out|apply bA|apply bN|apply bD|refine bS ?_ GE191.out|refine bS ?_ GE192.out)|exact HB.out)⟩
       ·replace c49:=Bool.eq_false_iff.mpr c49
        subst c49
        have H1 : (some 4) = some r:=by rw [if_neg (show ¬ (false = true) by decide)] at H;exact H
        clear H
        have H:=H1
        clear H1
        obtain rfl:=Option.some.inj H
        have hnb54:=NB192_191.out
        have hnc54:=NB191_192.out
        have hcz55_0 : wc.cell? ⟨gb192,0,none⟩ = some (.int .i64 a2_0):=(kC BK192.out 0).trans rfl
        have hcz55_1 : wc.cell? ⟨gb192,1,none⟩ = some (.bool a2_1):=(kC BK192.out 1).trans rfl
        have hcz55_2 : wc.cell? ⟨gb192,2,none⟩ = some (.int .u32 a2_2):=(kC BK192.out 2).trans rfl
        have hcz55_3 : wc.cell? ⟨gb192,3,none⟩ = some (.int .i64 a2_3):=(kC BK192.out 3).trans rfl
        have hcz55_4 : wc.cell? ⟨gb192,4,none⟩ = some (.int .i64 a2_4):=(kC BK192.out 4).trans rfl
        have hcz55_5 : wc.cell? ⟨gb192,5,none⟩ = some (.int .i64 a2_5):=(kC BK192.out 5).trans rfl
        have hcz55_6 : wc.cell? ⟨gb192,6,none⟩ = some (.int .i64 a2_6):=(kC BK192.out 6).trans rfl
        have hcz55_7 : wc.cell? ⟨gb192,7,none⟩ = some (.int .i64 a2_7):=(kC BK192.out 7).trans rfl
        have hfz55_0:=blk_frozen BK192.out 0
        have hfz55_1:=blk_frozen BK192.out 1
        have hfz55_2:=blk_frozen BK192.out 2
        have hfz55_3:=blk_frozen BK192.out 3
        have hfz55_4:=blk_frozen BK192.out 4
        have hfz55_5:=blk_frozen BK192.out 5
        have hfz55_6:=blk_frozen BK192.out 6
        have hfz55_7:=blk_frozen BK192.out 7
        have hcz56_0 : wc.cell? ⟨gb191,0,none⟩ = some (.slice A0_0 l0_0.length c0_0):=(kC BK191.out 0).trans rfl
        have hfz56_0:=blk_frozen BK191.out 0
        go_wp2_with (first|((with_reducible refine gate_callee (f:=71) rfl ?_);refine goesL_ (some 45) rfl rfl Try.func71 (by kernel_rfl) rfl #[.agg #[.slice A0_0 l0_0.length c0_0],.int .u32 a2_2] rfl (by (try simp only [List.map_toArray,List.map_cons,List.map_nil]);first|done|rfl|(simp only [List.length_drop,List.length_take];rfl)) ?_;(with_reducible refine (gazetteerref22_There.calls kj3 _ _ l0_0 a2_2 false _ ?side1 ?side2 A48.out).mono ?_);(case side1 => repeat (first|exact (Kd.C_below HR0_0.out HB.out)|(with_reducible refine Kd.C_alloc ?_ _)|(with_reducible refine Kd.C_drewN ?_ _)|(with_reducible refine Kd.C_drew ?_)));(case side2 => exact HC0_0.out);rintro e w57 ⟨rfl,hb⟩;refine ⟨_,rfl,?_⟩;have n0_:=Ak (kB (g:=gb191) (o:=.cells #[.slice A0_0 l0_0.length c0_0] 24 (0,0)) (by (with_reducible repeat (first|refine kN ?_ _|refine kD ?_|refine kA ?_ _));exact BK191.out) hb);have n1_:=Ak (kB (g:=gb192) (o:=.cells #[.int .i64 a2_0,.bool a2_1,.int .u32 a2_2,.int .i64 a2_3,.int .i64 a2_4,.int .i64 a2_5,.int .i64 a2_6,.int .i64 a2_7] 38 (0,0)) (by (with_reducible repeat (first|refine kN ?_ _|refine kD ?_|refine kA ?_ _));exact BK192.out) hb);have n2_:=Ak (below_step (by repeat (first|(with_reducible first|exact HB.out|apply bA|apply bN|apply bD|refine bS ?_ GE191.out|refine bS ?_ GE192.out)|exact HB.out)) hb);clear BK191;clear BK192;clear HB;have BK191:=n0_;have BK192:=n1_;have HB:=n2_;clear n0_ n1_ n2_;(try clear hb);(try clear hb2);(try clear hk);(try clear hi)))
        go_ret
        exact ⟨by first|rfl|(simp [errW_none,errW_some] <;> rfl)|(simp [*,errW_none,errW_some] <;> rfl),by repeat (first|(with_reducible first|exact HB.out|apply bA|apply bN|apply bD|refine bS ?_ GE191.out|refine bS ?_ GE192.out)|exact HB.out)⟩
     ·rw [if_neg c44] at H
      have c44b0 : (a2_0 == 3) = false:=beq_eq_false_iff_ne.mpr c44
      have c44b1 : (a2_0 != 3) = true:=bne_iff_ne.mpr c44
      by_cases c58 : a2_0 = 4
      ·rw [if_pos c58] at H
       have c58b0 : (a2_0 == 4) = true:=beq_iff_eq.mpr c58
       have c58b1 : (a2_0 != 4) = false:=bne_eq_false_iff_eq.mpr c58
       clear c58
       replace H:=Option.bind_eq_some_iff.mp H
       obtain ⟨t196,A590,H⟩:=H
       replace H : (if t196 = true then (some 0) else (some 314)) = some r:=H
       have A59:=Ak A590
       clear A590
       by_cases c60 : t196 = true
       ·subst c60
        have H1 : (some 0) = some r:=by rw [if_pos rfl] at H;exact H
        clear H
        have H:=H1
        clear H1
        obtain rfl:=Option.some.inj H
        have hnb61:=NB192_191.out
        have hnc61:=NB191_192.out
        have hcz62_0 : wc.cell? ⟨gb192,0,none⟩ = some (.int .i64 a2_0):=(kC BK192.out 0).trans rfl
        have hcz62_1 : wc.cell? ⟨gb192,1,none⟩ = some (.bool a2_1):=(kC BK192.out 1).trans rfl
        have hcz62_2 : wc.cell? ⟨gb192,2,none⟩ = some (.int .u32 a2_2):=(kC BK192.out 2).trans rfl
        have hcz62_3 : wc.cell? ⟨gb192,3,none⟩ = some (.int .i64 a2_3):=(kC BK192.out 3).trans rfl
        have hcz62_4 : wc.cell? ⟨gb192,4,none⟩ = some (.int .i64 a2_4):=(kC BK192.out 4).trans rfl
        have hcz62_5 : wc.cell? ⟨gb192,5,none⟩ = some (.int .i64 a2_5):=(kC BK192.out 5).trans rfl
        have hcz62_6 : wc.cell? ⟨gb192,6,none⟩ = some (.int .i64 a2_6):=(kC BK192.out 6).trans rfl
        have hcz62_7 : wc.cell? ⟨gb192,7,none⟩ = some (.int .i64 a2_7):=(kC BK192.out 7).trans rfl
        have hfz62_0:=blk_frozen BK192.out 0
        have hfz62_1:=blk_frozen BK192.out 1
        have hfz62_2:=blk_frozen BK192.out 2
        have hfz62_3:=blk_frozen BK192.out 3
        have hfz62_4:=blk_frozen BK192.out 4
        have hfz62_5:=blk_frozen BK192.out 5
        have hfz62_6:=blk_frozen BK192.out 6
        have hfz62_7:=blk_frozen BK192.out 7
        go_wp2_with (first|((with_reducible refine gate_callee (f:=26) rfl ?_);refine goesL_ (some 51) rfl rfl Try.func26 (by kernel_rfl) rfl #[.agg #[.int .i64 a2_3,.int .i64 a2_4,.int .i64 a2_5,.int .i64 a2_6]] rfl (by (try simp only [List.map_toArray,List.map_cons,List.map_nil]);first|done|rfl|(simp only [List.length_drop,List.length_take];rfl)) ?_;(with_reducible refine (gazetteerref09_Box.calls a2_3 a2_4 a2_5 a2_6 true _ A59.out).mono ?_);rintro e w63 ⟨rfl,hb⟩;refine ⟨_,rfl,?_⟩;have n0_:=Ak (kB (g:=gb191) (o:=.cells #[.slice A0_0 l0_0.length c0_0] 24 (0,0)) (by (with_reducible repeat (first|refine kN ?_ _|refine kD ?_|refine kA ?_ _));exact BK191.out) hb);have n1_:=Ak (kB (g:=gb192) (o:=.cells #[.int .i64 a2_0,.bool a2_1,.int .u32 a2_2,.int .i64 a2_3,.int .i64 a2_4,.int .i64 a2_5,.int .i64 a2_6,.int .i64 a2_7] 38 (0,0)) (by (with_reducible repeat (first|refine kN ?_ _|refine kD ?_|refine kA ?_ _));exact BK192.out) hb);have n2_:=Ak (below_step (by repeat (first|(with_reducible first|exact HB.out|apply bA|apply bN|apply bD|refine bS ?_ GE191.out|refine bS ?_ GE192.out)|exact HB.out)) hb);clear BK191;clear BK192;clear HB;have BK191:=n0_;have BK192:=n1_;have HB:=n2_;clear n0_ n1_ n2_;(try clear hb);(try clear hb2);(try clear hk);(try clear hi)))
        go_ret
        exact ⟨by first|rfl|(simp [errW_none,errW_some] <;> rfl)|(simp [*,errW_none,errW_some] <;> rfl),by repeat (first|(with_reducible first|exact HB.out|apply bA|apply bN|apply bD|refine bS ?_ GE191.out|refine bS ?_ GE192.out)|exact HB.out)⟩
       ·replace c60:=Bool.eq_false_iff.mpr c60
        subst c60
        have H1 : (some 314) = some r:=by rw [if_neg (show ¬ (false = true) by decide)] at H;exact H
        clear H
        have H:=H1
        clear H1
        obtain rfl:=Option.some.inj H
        have hnb64:=NB192_191.out
        have hnc64:=NB191_192.out
        have hcz65_0 : wc.cell? ⟨gb192,0,none⟩ = some (.int .i64 a2_0):=(kC BK192.out 0).trans rfl
        have hcz65_1 : wc.cell? ⟨gb192,1,none⟩ = some (.bool a2_1):=(kC BK192.out 1).trans rfl
        have hcz65_2 : wc.cell? ⟨gb192,2,none⟩ = some (.int .u32 a2_2):=(kC BK192.out 2).trans rfl
        have hcz65_3 : wc.cell? ⟨gb192,3,none⟩ = some (.int .i64 a2_3):=(kC BK192.out 3).trans rfl
        have hcz65_4 : wc.cell? ⟨gb192,4,none⟩ = some (.int .i64 a2_4):=(kC BK192.out 4).trans rfl
        have hcz65_5 : wc.cell? ⟨gb192,5,none⟩ = some (.int .i64 a2_5):=(kC BK192.out 5).trans rfl
        have hcz65_6 : wc.cell? ⟨gb192,6,none⟩ = some (.int .i64 a2_6):=(kC BK192.out 6).trans rfl
        have hcz65_7 : wc.cell? ⟨gb192,7,none⟩ = some (.int .i64 a2_7):=(kC BK192.out 7).trans rfl
        have hfz65_0:=blk_frozen BK192.out 0
        have hfz65_1:=blk_frozen BK192.out 1
        have hfz65_2:=blk_frozen BK192.out 2
        have hfz65_3:=blk_frozen BK192.out 3
        have hfz65_4:=blk_frozen BK192.out 4
        have hfz65_5:=blk_frozen BK192.out 5
        have hfz65_6:=blk_frozen BK192.out 6
        have hfz65_7:=blk_frozen BK192.out 7
        go_wp2_with (first|((with_reducible refine gate_callee (f:=26) rfl ?_);refine goesL_ (some 51) rfl rfl Try.func26 (by kernel_rfl) rfl #[.agg #[.int .i64 a2_3,.int .i64 a2_4,.int .i64 a2_5,.int .i64 a2_6]] rfl (by (try simp only [List.map_toArray,List.map_cons,List.map_nil]);first|done|rfl|(simp only [List.length_drop,List.length_take];rfl)) ?_;(with_reducible refine (gazetteerref09_Box.calls a2_3 a2_4 a2_5 a2_6 false _ A59.out).mono ?_);rintro e w66 ⟨rfl,hb⟩;refine ⟨_,rfl,?_⟩;have n0_:=Ak (kB (g:=gb191) (o:=.cells #[.slice A0_0 l0_0.length c0_0] 24 (0,0)) (by (with_reducible repeat (first|refine kN ?_ _|refine kD ?_|refine kA ?_ _));exact BK191.out) hb);have n1_:=Ak (kB (g:=gb192) (o:=.cells #[.int .i64 a2_0,.bool a2_1,.int .u32 a2_2,.int .i64 a2_3,.int .i64 a2_4,.int .i64 a2_5,.int .i64 a2_6,.int .i64 a2_7] 38 (0,0)) (by (with_reducible repeat (first|refine kN ?_ _|refine kD ?_|refine kA ?_ _));exact BK192.out) hb);have n2_:=Ak (below_step (by repeat (first|(with_reducible first|exact HB.out|apply bA|apply bN|apply bD|refine bS ?_ GE191.out|refine bS ?_ GE192.out)|exact HB.out)) hb);clear BK191;clear BK192;clear HB;have BK191:=n0_;have BK192:=n1_;have HB:=n2_;clear n0_ n1_ n2_;(try clear hb);(try clear hb2);(try clear hk);(try clear hi)))
        go_ret
        exact ⟨by first|rfl|(simp [errW_none,errW_some] <;> rfl)|(simp [*,errW_none,errW_some] <;> rfl),by repeat (first|(with_reducible first|exact HB.out|apply bA|apply bN|apply bD|refine bS ?_ GE191.out|refine bS ?_ GE192.out)|exact HB.out)⟩
      ·rw [if_neg c58] at H
       have c58b0 : (a2_0 == 4) = false:=beq_eq_false_iff_ne.mpr c58
       have c58b1 : (a2_0 != 4) = true:=bne_iff_ne.mpr c58
       obtain rfl:=Option.some.inj H
       go_wp2
       go_ret
       exact ⟨by first|rfl|(simp [errW_none,errW_some] <;> rfl)|(simp [*,errW_none,errW_some] <;> rfl),by repeat (first|(with_reducible first|exact HB.out|apply bA|apply bN|apply bD|refine bS ?_ GE191.out|refine bS ?_ GE192.out)|exact HB.out)⟩
end Go.Proofs.Ytknlbfandkmeiaa.M
end
