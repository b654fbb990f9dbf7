/- What the row of this claim reaches. No condition. -/
import Derived.Laws.BytesArg
import Derived.WalkKit
import Derived.Test.YthlhmijgbjcloaaGPart
set_option linter.unusedVariables false
set_option linter.unusedSimpArgs false
section
namespace Go.Proofs.Ythlhmijgbjcloaa.A
open Go.RowKit Go.Proofs.YthlhmijgbjcloaaW.PrintWords Go.Proofs.YthlhmijgbjcloaaW.PrintLast Go.Proofs.YthlhmijgbjcloaaW.PrintMore
attribute [local go_sem] max2_int min2_int max_two min_two max_three min_three max_four min_four   -- for this text's walks alone
theorem key_Part.calls (k : Nat) (A0 : Option Addr) (c0 : Nat) (l0 : List S35) (r1 : List Int) (r2 : List Int) (r3 : Int) (w : World) (hr0 : Kd.C k35 w A0 l0.length l0) (hc0 : l0.length ≤ c0) (h : key_Part.f k l0 = some (r1, r2, r3)) :
    Calls Try.prog 33 #[.slice A0 l0.length c0] w fun e w' => ∃ v0_ v1_ : Value, e = .returned (.tuple #[v0_, v1_, .int .i64 r3]) ∧ Kd.R (Kd.int .i64) 3 w' w.heap.size (fun k_ => some k_ ≠ (v1_ : Value).ownBlock) v0_ r1 ∧ Kd.R (Kd.int .i64) 3 w' w.heap.size (fun k_ => some k_ ≠ (v0_ : Value).ownBlock) v1_ r2 ∧ Below w.heap.size w w' :=
  key_Part_any k A0 c0 l0 r1 r2 r3 w hr0 hc0 h
end Go.Proofs.Ythlhmijgbjcloaa.A
end
section
namespace Go.Proofs.Ythlhmijgbjcloaa.A
open Go.RowKit Go.Proofs.YthlhmijgbjcloaaW.PrintWords Go.Proofs.YthlhmijgbjcloaaW.PrintLast Go.Proofs.YthlhmijgbjcloaaW.PrintMore
attribute [local go_sem] max2_int min2_int max_two min_two max_three min_three max_four min_four   -- for this text's walks alone
def key_Meets.f (a0_0 : Int) (a0_1 : Int) (a0_2 : Int) (a0_3 : Int) (a1_0 : Int) (a1_1 : Int) (a1_2 : Int) (a1_3 : Int) : Option (Bool) := (key_box.f a0_0 a0_1 a0_2 a0_3).bind fun t152 => (if t152 = true then ((key_box.f a1_0 a1_1 a1_2 a1_3).bind fun t153 => (if t153 = true then (if a0_0 ≤ a1_1 then (if a1_0 ≤ a0_1 then (if a0_2 ≤ a1_3 then (some (decide (a1_2 ≤ a0_3))) else (some false)) else (some false)) else (some false)) else (some false))) else (some false))
set_option maxHeartbeats 8000000 in
set_option maxRecDepth 100000 in
theorem key_Meets.calls (a0_0 : Int) (a0_1 : Int) (a0_2 : Int) (a0_3 : Int) (a1_0 : Int) (a1_1 : Int) (a1_2 : Int) (a1_3 : Int) (r : Bool) (w : World) (h : key_Meets.f a0_0 a0_1 a0_2 a0_3 a1_0 a1_1 a1_2 a1_3 = some r) :
  Calls Try.prog 34 #[.agg #[.int .i64 a0_0,.int .i64 a0_1,.int .i64 a0_2,.int .i64 a0_3],.agg #[.int .i64 a1_0,.int .i64 a1_1,.int .i64 a1_2,.int .i64 a1_3]] w fun e w' => e = .returned (.bool r)∧Below w.heap.size w w':=by
 have hu35:=Try.underlying35
 have HB:=Ak (Below.refl w.heap.size w)
 have H : ((key_box.f a0_0 a0_1 a0_2 a0_3).bind fun t152 => (if t152 = true then ((key_box.f a1_0 a1_1 a1_2 a1_3).bind fun t153 => (if t153 = true then (if a0_0 ≤ a1_1 then (if a1_0 ≤ a0_1 then (if a0_2 ≤ a1_3 then (some (decide (a1_2 ≤ a0_3))) else (some false)) else (some false)) else (some false)) else (some false))) else (some false))) = some r:=h
 clear h
 replace H:=Option.bind_eq_some_iff.mp H
 obtain ⟨t152,A30,H⟩:=H
 replace H : (if t152 = true then ((key_box.f a1_0 a1_1 a1_2 a1_3).bind fun t153 => (if t153 = true then (if a0_0 ≤ a1_1 then (if a1_0 ≤ a0_1 then (if a0_2 ≤ a1_3 then (some (decide (a1_2 ≤ a0_3))) else (some false)) else (some false)) else (some false)) else (some false))) else (some false)) = some r:=H
 have A3:=Ak A30
 clear A30
 by_cases c4 : t152 = true
 ·subst c4
  have H1 : ((key_box.f a1_0 a1_1 a1_2 a1_3).bind fun t153 => (if t153 = true then (if a0_0 ≤ a1_1 then (if a1_0 ≤ a0_1 then (if a0_2 ≤ a1_3 then (some (decide (a1_2 ≤ a0_3))) else (some false)) else (some false)) else (some false)) else (some false))) = some r:=by rw [if_pos rfl] at H;exact H
  clear H
  have H:=H1
  clear H1
  replace H:=Option.bind_eq_some_iff.mp H
  obtain ⟨t153,A50,H⟩:=H
  replace H : (if t153 = true then (if a0_0 ≤ a1_1 then (if a1_0 ≤ a0_1 then (if a0_2 ≤ a1_3 then (some (decide (a1_2 ≤ a0_3))) else (some false)) else (some false)) else (some false)) else (some false)) = some r:=H
  have A5:=Ak A50
  clear A50
  by_cases c6 : t153 = true
  ·subst c6
   have H1 : (if a0_0 ≤ a1_1 then (if a1_0 ≤ a0_1 then (if a0_2 ≤ a1_3 then (some (decide (a1_2 ≤ a0_3))) else (some false)) else (some false)) else (some false)) = some r:=by rw [if_pos rfl] at H;exact H
   clear H
   have H:=H1
   clear H1
   by_cases c7 : a0_0 ≤ a1_1
   ·rw [if_pos c7] at H
    have c7b0 : decide (a0_0 ≤ a1_1) = true:=decide_eq_true c7
    clear c7
    by_cases c8 : a1_0 ≤ a0_1
    ·rw [if_pos c8] at H
     have c8b0 : decide (a1_0 ≤ a0_1) = true:=decide_eq_true c8
     clear c8
     by_cases c9 : a0_2 ≤ a1_3
     ·rw [if_pos c9] at H
      have c9b0 : decide (a0_2 ≤ a1_3) = true:=decide_eq_true c9
      clear c9
      obtain rfl:=Option.some.inj H
      go_enter Try.func34,Try.ntmps34
      go_wp2_with (first|((with_reducible refine gate_dst (N:=2) rfl ?_);refine box_event ?hg (N:=2) ?hd (cs:=#[.int .i64 a0_0,.int .i64 a0_1,.int .i64 a0_2,.int .i64 a0_3]) (t:=35) ?hr ?_;(case hd => rfl);(case hg => rfl);(case hr => first|(go_simp;done)|(go_simp;rfl));intro gb150 hg w10 hbox hb;have n0_:=Kh HB hb;have n1_:=Ak (hbox);have n2_:=Ak ((by rw [hg];exact (below_size HB.out) : w.heap.size ≤ gb150));have n3_:=Ak ((by rw [hg];exact (below_size HB.out) : w.heap.size ≤ gb150));clear HB;have HB:=n0_;have BK150:=n1_;have GW150:=n2_;have GE150:=n3_;clear n0_ n1_ n2_ n3_;clear hb hbox hg)|((with_reducible refine gate_dst (N:=3) rfl ?_);refine box_event ?hg (N:=3) ?hd (cs:=#[.int .i64 a1_0,.int .i64 a1_1,.int .i64 a1_2,.int .i64 a1_3]) (t:=35) ?hr ?_;(case hd => rfl);(case hg => rfl);(case hr => first|(go_simp;done)|(go_simp;rfl));intro gb151 hg w11 hbox hb;have n0_:=Kb BK150 hb;have n1_:=Kh HB hb;have n2_:=Ak (hbox);have n3_:=Ak ((by rw [hg];exact (below_size HB.out) : w.heap.size ≤ gb151));have n4_:=Ak ((by rw [hg];exact (below_size HB.out) : w.heap.size ≤ gb151));have n5_:=Ak ((by rw [hg];exact Nat.ne_of_lt (blk_lt (g:=gb150) (o:=.cells #[.int .i64 a0_0,.int .i64 a0_1,.int .i64 a0_2,.int .i64 a0_3] 35 (0,0)) BK150.out) : gb150 ≠ gb151));have n6_:=Ak ((by rw [hg];exact Nat.ne_of_gt (blk_lt (g:=gb150) (o:=.cells #[.int .i64 a0_0,.int .i64 a0_1,.int .i64 a0_2,.int .i64 a0_3] 35 (0,0)) BK150.out) : gb151 ≠ gb150));clear BK150;clear HB;have BK150:=n0_;have HB:=n1_;have BK151:=n2_;have GW151:=n3_;have GE151:=n4_;have NB150_151:=n5_;have NB151_150:=n6_;clear n0_ n1_ n2_ n3_ n4_ n5_ n6_;clear hb hbox hg;have hnb12:=NB150_151.out;have hnc12:=NB151_150.out;have hcz13_0 : w11.cell? ⟨gb150,0,none⟩ = some (.int .i64 a0_0):=(kC BK150.out 0).trans rfl;have hcz13_1 : w11.cell? ⟨gb150,1,none⟩ = some (.int .i64 a0_1):=(kC BK150.out 1).trans rfl;have hcz13_2 : w11.cell? ⟨gb150,2,none⟩ = some (.int .i64 a0_2):=(kC BK150.out 2).trans rfl;have hcz13_3 : w11.cell? ⟨gb150,3,none⟩ = some (.int .i64 a0_3):=(kC BK150.out 3).trans rfl;have hfz13_0:=blk_frozen BK150.out 0;have hfz13_1:=blk_frozen BK150.out 1;have hfz13_2:=blk_frozen BK150.out 2;have hfz13_3:=blk_frozen BK150.out 3)|((with_reducible refine gate_callee (f:=57) rfl ?_);refine goesL_ (some 6) rfl rfl Try.func57 (by kernel_rfl) rfl #[.agg #[.int .i64 a0_0,.int .i64 a0_1,.int .i64 a0_2,.int .i64 a0_3]] rfl (by (try simp only [List.map_toArray,List.map_cons,List.map_nil]);first|done|rfl|(simp only [List.length_drop,List.length_take];rfl)) ?_;(with_reducible refine (key_box.calls a0_0 a0_1 a0_2 a0_3 true _ A3.out).mono ?_);rintro e w14 ⟨rfl,hb⟩;refine ⟨_,rfl,?_⟩;have n0_:=Kb BK150 hb;have n1_:=Kb BK151 hb;have n2_:=Kh HB hb;clear BK150;clear BK151;clear HB;have BK150:=n0_;have BK151:=n1_;have HB:=n2_;clear n0_ n1_ n2_;(try clear hb);(try clear hb2);(try clear hk);(try clear hi);have hcz15_0 : w14.cell? ⟨gb151,0,none⟩ = some (.int .i64 a1_0):=(kC BK151.out 0).trans rfl;have hcz15_1 : w14.cell? ⟨gb151,1,none⟩ = some (.int .i64 a1_1):=(kC BK151.out 1).trans rfl;have hcz15_2 : w14.cell? ⟨gb151,2,none⟩ = some (.int .i64 a1_2):=(kC BK151.out 2).trans rfl;have hcz15_3 : w14.cell? ⟨gb151,3,none⟩ = some (.int .i64 a1_3):=(kC BK151.out 3).trans rfl;have hfz15_0:=blk_frozen BK151.out 0;have hfz15_1:=blk_frozen BK151.out 1;have hfz15_2:=blk_frozen BK151.out 2;have hfz15_3:=blk_frozen BK151.out 3)|(go_at_call 57;(with_reducible refine (key_box.calls a1_0 a1_1 a1_2 a1_3 true _ A5.out).mono ?_);rintro e w16 ⟨rfl,hb⟩;have n0_:=Kb BK150 hb;have n1_:=Kb BK151 hb;have n2_:=Kh HB hb;clear BK150;clear BK151;clear HB;have BK150:=n0_;have BK151:=n1_;have HB:=n2_;clear n0_ n1_ n2_;(try clear hb);(try clear hb2);(try clear hk);(try clear hi);have hcz17_0 : w16.cell? ⟨gb150,0,none⟩ = some (.int .i64 a0_0):=(kC BK150.out 0).trans rfl;have hcz17_1 : w16.cell? ⟨gb150,1,none⟩ = some (.int .i64 a0_1):=(kC BK150.out 1).trans rfl;have hcz17_2 : w16.cell? ⟨gb150,2,none⟩ = some (.int .i64 a0_2):=(kC BK150.out 2).trans rfl;have hcz17_3 : w16.cell? ⟨gb150,3,none⟩ = some (.int .i64 a0_3):=(kC BK150.out 3).trans rfl;have hfz17_0:=blk_frozen BK150.out 0;have hfz17_1:=blk_frozen BK150.out 1;have hfz17_2:=blk_frozen BK150.out 2;have hfz17_3:=blk_frozen BK150.out 3;have hcz18_0 : w16.cell? ⟨gb151,0,none⟩ = some (.int .i64 a1_0):=(kC BK151.out 0).trans rfl;have hcz18_1 : w16.cell? ⟨gb151,1,none⟩ = some (.int .i64 a1_1):=(kC BK151.out 1).trans rfl;have hcz18_2 : w16.cell? ⟨gb151,2,none⟩ = some (.int .i64 a1_2):=(kC BK151.out 2).trans rfl;have hcz18_3 : w16.cell? ⟨gb151,3,none⟩ = some (.int .i64 a1_3):=(kC BK151.out 3).trans rfl;have hfz18_0:=blk_frozen BK151.out 0;have hfz18_1:=blk_frozen BK151.out 1;have hfz18_2:=blk_frozen BK151.out 2;have hfz18_3:=blk_frozen BK151.out 3))
      go_ret
      exact ⟨by first|rfl|(simp [errW_none,errW_some] <;> rfl)|(simp [*,errW_none,errW_some] <;> rfl),by repeat (first|(with_reducible first|exact HB.out|apply bA|apply bN|apply bD|refine bS ?_ GE150.out|refine bS ?_ GE151.out)|exact HB.out)⟩
     ·rw [if_neg c9] at H
      have c9b0 : decide (a0_2 ≤ a1_3) = false:=decide_eq_false c9
      clear c9
      obtain rfl:=Option.some.inj H
      go_enter Try.func34,Try.ntmps34
      go_wp2_with (first|((with_reducible refine gate_dst (N:=2) rfl ?_);refine box_event ?hg (N:=2) ?hd (cs:=#[.int .i64 a0_0,.int .i64 a0_1,.int .i64 a0_2,.int .i64 a0_3]) (t:=35) ?hr ?_;(case hd => rfl);(case hg => rfl);(case hr => first|(go_simp;done)|(go_simp;rfl));intro gb150 hg w19 hbox hb;have n0_:=Kh HB hb;have n1_:=Ak (hbox);have n2_:=Ak ((by rw [hg];exact (below_size HB.out) : w.heap.size ≤ gb150));have n3_:=Ak ((by rw [hg];exact (below_size HB.out) : w.heap.size ≤ gb150));clear HB;have HB:=n0_;have BK150:=n1_;have GW150:=n2_;have GE150:=n3_;clear n0_ n1_ n2_ n3_;clear hb hbox hg)|((with_reducible refine gate_dst (N:=3) rfl ?_);refine box_event ?hg (N:=3) ?hd (cs:=#[.int .i64 a1_0,.int .i64 a1_1,.int .i64 a1_2,.int .i64 a1_3]) (t:=35) ?hr ?_;(case hd => rfl);(case hg => rfl);(case hr => first|(go_simp;done)|(go_simp;rfl));intro gb151 hg w20 hbox hb;have n0_:=Kb BK150 hb;have n1_:=Kh HB hb;have n2_:=Ak (hbox);have n3_:=Ak ((by rw [hg];exact (below_size HB.out) : w.heap.size ≤ gb151));have n4_:=Ak ((by rw [hg];exact (below_size HB.out) : w.heap.size ≤ gb151));have n5_:=Ak ((by rw [hg];exact Nat.ne_of_lt (blk_lt (g:=gb150) (o:=.cells #[.int .i64 a0_0,.int .i64 a0_1,.int .i64 a0_2,.int .i64 a0_3] 35 (0,0)) BK150.out) : gb150 ≠ gb151));have n6_:=Ak ((by rw [hg];exact Nat.ne_of_gt (blk_lt (g:=gb150) (o:=.cells #[.int .i64 a0_0,.int .i64 a0_1,.int .i64 a0_2,.int .i64 a0_3] 35 (0,0)) BK150.out) : gb151 ≠ gb150));clear BK150;clear HB;have BK150:=n0_;have HB:=n1_;have BK151:=n2_;have GW151:=n3_;have GE151:=n4_;have NB150_151:=n5_;have NB151_150:=n6_;clear n0_ n1_ n2_ n3_ n4_ n5_ n6_;clear hb hbox hg;have hnb21:=NB150_151.out;have hnc21:=NB151_150.out;have hcz22_0 : w20.cell? ⟨gb150,0,none⟩ = some (.int .i64 a0_0):=(kC BK150.out 0).trans rfl;have hcz22_1 : w20.cell? ⟨gb150,1,none⟩ = some (.int .i64 a0_1):=(kC BK150.out 1).trans rfl;have hcz22_2 : w20.cell? ⟨gb150,2,none⟩ = some (.int .i64 a0_2):=(kC BK150.out 2).trans rfl;have hcz22_3 : w20.cell? ⟨gb150,3,none⟩ = some (.int .i64 a0_3):=(kC BK150.out 3).trans rfl;have hfz22_0:=blk_frozen BK150.out 0;have hfz22_1:=blk_frozen BK150.out 1;have hfz22_2:=blk_frozen BK150.out 2;have hfz22_3:=blk_frozen BK150.out 3)|((with_reducible refine gate_callee (f:=57) rfl ?_);refine goesL_ (some 6) rfl rfl Try.func57 (by kernel_rfl) rfl #[.agg #[.int .i64 a0_0,.int .i64 a0_1,.int .i64 a0_2,.int .i64 a0_3]] rfl (by (try simp only [List.map_toArray,List.map_cons,List.map_nil]);first|done|rfl|(simp only [List.length_drop,List.length_take];rfl)) ?_;(with_reducible refine (key_box.calls a0_0 a0_1 a0_2 a0_3 true _ A3.out).mono ?_);rintro e w23 ⟨rfl,hb⟩;refine ⟨_,rfl,?_⟩;have n0_:=Kb BK150 hb;have n1_:=Kb BK151 hb;have n2_:=Kh HB hb;clear BK150;clear BK151;clear HB;have BK150:=n0_;have BK151:=n1_;have HB:=n2_;clear n0_ n1_ n2_;(try clear hb);(try clear hb2);(try clear hk);(try clear hi);have hcz24_0 : w23.cell? ⟨gb151,0,none⟩ = some (.int .i64 a1_0):=(kC BK151.out 0).trans rfl;have hcz24_1 : w23.cell? ⟨gb151,1,none⟩ = some (.int .i64 a1_1):=(kC BK151.out 1).trans rfl;have hcz24_2 : w23.cell? ⟨gb151,2,none⟩ = some (.int .i64 a1_2):=(kC BK151.out 2).trans rfl;have hcz24_3 : w23.cell? ⟨gb151,3,none⟩ = some (.int .i64 a1_3):=(kC BK151.out 3).trans rfl;have hfz24_0:=blk_frozen BK151.out 0;have hfz24_1:=blk_frozen BK151.out 1;have hfz24_2:=blk_frozen BK151.out 2;have hfz24_3:=blk_frozen BK151.out 3)|(go_at_call 57;(with_reducible refine (key_box.calls a1_0 a1_1 a1_2 a1_3 true _ A5.out).mono ?_);rintro e w25 ⟨rfl,hb⟩;have n0_:=Kb BK150 hb;have n1_:=Kb BK151 hb;have n2_:=Kh HB hb;clear BK150;clear BK151;clear HB;have BK150:=n0_;have BK151:=n1_;have HB:=n2_;clear n0_ n1_ n2_;(try clear hb);(try clear hb2);(try clear hk);(try clear hi);have hcz26_0 : w25.cell? ⟨gb150,0,none⟩ = some (.int .i64 a0_0):=(kC BK150.out 0).trans rfl;have hcz26_1 : w25.cell? ⟨gb150,1,none⟩ = some (.int .i64 a0_1):=(kC BK150.out 1).trans rfl;have hcz26_2 : w25.cell? ⟨gb150,2,none⟩ = some (.int .i64 a0_2):=(kC BK150.out 2).trans rfl;have hcz26_3 : w25.cell? ⟨gb150,3,none⟩ = some (.int .i64 a0_3):=(kC BK150.out 3).trans rfl;have hfz26_0:=blk_frozen BK150.out 0;have hfz26_1:=blk_frozen BK150.out 1;have hfz26_2:=blk_frozen BK150.out 2;have hfz26_3:=blk_frozen BK150.out 3;have hcz27_0 : w25.cell? ⟨gb151,0,none⟩ = some (.int .i64 a1_0):=(kC BK151.out 0).trans rfl;have hcz27_1 : w25.cell? ⟨gb151,1,none⟩ = some (.int .i64 a1_1):=(kC BK151.out 1).trans rfl;have hcz27_2 : w25.cell? ⟨gb151,2,none⟩ = some (.int .i64 a1_2):=(kC BK151.out 2).trans rfl;have hcz27_3 : w25.cell? ⟨gb151,3,none⟩ = some (.int .i64 a1_3):=(kC BK151.out 3).trans rfl;have hfz27_0:=blk_frozen BK151.out 0;have hfz27_1:=blk_frozen BK151.out 1;have hfz27_2:=blk_frozen BK151.out 2;have hfz27_3:=blk_frozen BK151.out 3))
      go_ret
      exact ⟨by first|rfl|(simp [errW_none,errW_some] <;> rfl)|(simp [*,errW_none,errW_some] <;> rfl),by repeat (first|(with_reducible first|exact HB.out|apply bA|apply bN|apply bD|refine bS ?_ GE150.out|refine bS ?_ GE151.out)|exact HB.out)⟩
    ·rw [if_neg c8] at H
     have c8b0 : decide (a1_0 ≤ a0_1) = false:=decide_eq_false c8
     clear c8
     obtain rfl:=Option.some.inj H
     go_enter Try.func34,Try.ntmps34
     go_wp2_with (first|((with_reducible refine gate_dst (N:=2) rfl ?_);refine box_event ?hg (N:=2) ?hd (cs:=#[.int .i64 a0_0,.int .i64 a0_1,.int .i64 a0_2,.int .i64 a0_3]) (t:=35) ?hr ?_;(case hd => rfl);(case hg => rfl);(case hr => first|(go_simp;done)|(go_simp;rfl));intro gb150 hg w28 hbox hb;have n0_:=Kh HB hb;have n1_:=Ak (hbox);have n2_:=Ak ((by rw [hg];exact (below_size HB.out) : w.heap.size ≤ gb150));have n3_:=Ak ((by rw [hg];exact (below_size HB.out) : w.heap.size ≤ gb150));clear HB;have HB:=n0_;have BK150:=n1_;have GW150:=n2_;have GE150:=n3_;clear n0_ n1_ n2_ n3_;clear hb hbox hg)|((with_reducible refine gate_dst (N:=3) rfl ?_);refine box_event ?hg (N:=3) ?hd (cs:=#[.int .i64 a1_0,.int .i64 a1_1,.int .i64 a1_2,.int .i64 a1_3]) (t:=35) ?hr ?_;(case hd => rfl);(case hg => rfl);(case hr => first|(go_simp;done)|(go_simp;rfl));intro gb151 hg w29 hbox hb;have n0_:=Kb BK150 hb;have n1_:=Kh HB hb;have n2_:=Ak (hbox);have n3_:=Ak ((by rw [hg];exact (below_size HB.out) : w.heap.size ≤ gb151));have n4_:=Ak ((by rw [hg];exact (below_size HB.out) : w.heap.size ≤ gb151));have n5_:=Ak ((by rw [hg];exact Nat.ne_of_lt (blk_lt (g:=gb150) (o:=.cells #[.int .i64 a0_0,.int .i64 a0_1,.int .i64 a0_2,.int .i64 a0_3] 35 (0,0)) BK150.out) : gb150 ≠ gb151));have n6_:=Ak ((by rw [hg];exact Nat.ne_of_gt (blk_lt (g:=gb150) (o:=.cells #[.int .i64 a0_0,.int .i64 a0_1,.int .i64 a0_2,.int .i64 a0_3] 35 (0,0)) BK150.out) : gb151 ≠ gb150));clear BK150;clear HB;have BK150:=n0_;have HB:=n1_;have BK151:=n2_;have GW151:=n3_;have GE151:=n4_;have NB150_151:=n5_;have NB151_150:=n6_;clear n0_ n1_ n2_ n3_ n4_ n5_ n6_;clear hb hbox hg;have hnb30:=NB150_151.out;have hnc30:=NB151_150.out;have hcz31_0 : w29.cell? ⟨gb150,0,none⟩ = some (.int .i64 a0_0):=(kC BK150.out 0).trans rfl;have hcz31_1 : w29.cell? ⟨gb150,1,none⟩ = some (.int .i64 a0_1):=(kC BK150.out 1).trans rfl;have hcz31_2 : w29.cell? ⟨gb150,2,none⟩ = some (.int .i64 a0_2):=(kC BK150.out 2).trans rfl;have hcz31_3 : w29.cell? ⟨gb150,3,none⟩ = some (.int .i64 a0_3):=(kC BK150.out 3).trans rfl;have hfz31_0:=blk_frozen BK150.out 0;have hfz31_1:=blk_frozen BK150.out 1;have hfz31_2:=blk_frozen BK150.out 2;have hfz31_3:=blk_frozen BK150.out 3)|((with_reducible refine gate_callee (f:=57) rfl ?_);refine goesL_ (some 6) rfl rfl Try.func57 (by kernel_rfl) rfl #[.agg #[.int .i64 a0_0,.int .i64 a0_1,.int .i64 a0_2,.int .i64 a0_3]] rfl (by (try simp only [List.map_toArray,List.map_cons,List.map_nil]);first|done|rfl|(simp only [List.length_drop,List.length_take];rfl)) ?_;(with_reducible refine (key_box.calls a0_0 a0_1 a0_2 a0_3 true _ A3.out).mono ?_);rintro e w32 ⟨rfl,hb⟩;refine ⟨_,rfl,?_⟩;have n0_:=Kb BK150 hb;have n1_:=Kb BK151 hb;have n2_:=Kh HB hb;clear BK150;clear BK151;clear HB;have BK150:=n0_;have BK151:=n1_;have HB:=n2_;clear n0_ n1_ n2_;(try clear hb);(try clear hb2);(try clear hk);(try clear hi);have hcz33_0 : w32.cell? ⟨gb151,0,none⟩ = some (.int .i64 a1_0):=(kC BK151.out 0).trans rfl;have hcz33_1 : w32.cell? ⟨gb151,1,none⟩ = some (.int .i64 a1_1):=(kC BK151.out 1).trans rfl;have hcz33_2 : w32.cell? ⟨gb151,2,none⟩ = some (.int .i64 a1_2):=(kC BK151.out 2).trans rfl;have hcz33_3 : w32.cell? ⟨gb151,3,none⟩ = some (.int .i64 a1_3):=(kC BK151.out 3).trans rfl;have hfz33_0:=blk_frozen BK151.out 0;have hfz33_1:=blk_frozen BK151.out 1;have hfz33_2:=blk_frozen BK151.out 2;have hfz33_3:=blk_frozen BK151.out 3)|(go_at_call 57;(with_reducible refine (key_box.calls a1_0 a1_1 a1_2 a1_3 true _ A5.out).mono ?_);rintro e w34 ⟨rfl,hb⟩;have n0_:=Kb BK150 hb;have n1_:=Kb BK151 hb;have n2_:=Kh HB hb;clear BK150;clear BK151;clear HB;have BK150:=n0_;have BK151:=n1_;have HB:=n2_;clear n0_ n1_ n2_;(try clear hb);(try clear hb2);(try clear hk);(try clear hi);have hcz35_0 : w34.cell? ⟨gb150,0,none⟩ = some (.int .i64 a0_0):=(kC BK150.out 0).trans rfl;have hcz35_1 : w34.cell? ⟨gb150,1,none⟩ = some (.int .i64 a0_1):=(kC BK150.out 1).trans rfl;have hcz35_2 : w34.cell? ⟨gb150,2,none⟩ = some (.int .i64 a0_2):=(kC BK150.out 2).trans rfl;have hcz35_3 : w34.cell? ⟨gb150,3,none⟩ = some (.int .i64 a0_3):=(kC BK150.out 3).trans rfl;have hfz35_0:=blk_frozen BK150.out 0;have hfz35_1:=blk_frozen BK150.out 1;have hfz35_2:=blk_frozen BK150.out 2;have hfz35_3:=blk_frozen BK150.out 3;have hcz36_0 : w34.cell? ⟨gb151,0,none⟩ = some (.int .i64 a1_0):=(kC BK151.out 0).trans rfl;have hcz36_1 : w34.cell? ⟨gb151,1,none⟩ = some (.int .i64 a1_1):=(kC BK151.out 1).trans rfl;have hcz36_2 : w34.cell? ⟨gb151,2,none⟩ = some (.int .i64 a1_2):=(kC BK151.out 2).trans rfl;have hcz36_3 : w34.cell? ⟨gb151,3,none⟩ = some (.int .i64 a1_3):=(kC BK151.out 3).trans rfl;have hfz36_0:=blk_frozen BK151.out 0;have hfz36_1:=blk_frozen BK151.out 1;have hfz36_2:=blk_frozen BK151.out 2;have hfz36_3:=blk_frozen BK151.out 3))
     go_ret
     exact ⟨by first|rfl|(simp [errW_none,errW_some] <;> rfl)|(simp [*,errW_none,errW_some] <;> rfl),by repeat (first|(with_reducible first|exact HB.out|apply bA|apply bN|apply bD|refine bS ?_ GE150.out|refine bS ?_ GE151.out)|exact HB.out)⟩
   ·rw [if_neg c7] at H
    have c7b0 : decide (a0_0 ≤ a1_1) = false:=decide_eq_false c7
    clear c7
    obtain rfl:=Option.some.inj H
    go_enter Try.func34,Try.ntmps34
    go_wp2_with (first|((with_reducible refine gate_dst (N:=2) rfl ?_);refine box_event ?hg (N:=2) ?hd (cs:=#[.int .i64 a0_0,.int .i64 a0_1,.int .i64 a0_2,.int .i64 a0_3]) (t:=35) ?hr ?_;(case hd => rfl);(case hg => rfl);(case hr => first|(go_simp;done)|(go_simp;rfl));intro gb150 hg w37 hbox hb;have n0_:=Kh HB hb;have n1_:=Ak (hbox);have n2_:=Ak ((by rw [hg];exact (below_size HB.out) : w.heap.size ≤ gb150));have n3_:=Ak ((by rw [hg];exact (below_size HB.out) : w.heap.size ≤ gb150));clear HB;have HB:=n0_;have BK150:=n1_;have GW150:=n2_;have GE150:=n3_;clear n0_ n1_ n2_ n3_;clear hb hbox hg)|((with_reducible refine gate_dst (N:=3) rfl ?_);refine box_event ?hg (N:=3) ?hd (cs:=#[.int .i64 a1_0,.int .i64 a1_1,.int .i64 a1_2,.int .i64 a1_3]) (t:=35) ?hr ?_;(case hd => rfl);(case hg => rfl);(case hr => first|(go_simp;done)|(go_simp;rfl));intro gb151 hg w38 hbox hb;have n0_:=Kb BK150 hb;have n1_:=Kh HB hb;have n2_:=Ak (hbox);have n3_:=Ak ((by rw [hg];exact (below_size HB.out) : w.heap.size ≤ gb151));have n4_:=Ak ((by rw [hg];exact (below_size HB.out) : w.heap.size ≤ gb151));have n5_:=Ak ((by rw [hg];exact Nat.ne_of_lt (blk_lt (g:=gb150) (o:=.cells #[.int .i64 a0_0,.int .i64 a0_1,.int .i64 a0_2,.int .i64 a0_3] 35 (0,0)) BK150.out) : gb150 ≠ gb151));have n6_:=Ak ((by rw [hg];exact Nat.ne_of_gt (blk_lt (g:=gb150) (o:=.cells #[.int .i64 a0_0,.int .i64 a0_1,.int .i64 a0_2,.int .i64 a0_3] 35 (0,0)) BK150.out) : gb151 ≠ gb150));clear BK150;clear HB;have BK150:=n0_;have HB:=n1_;have BK151:=n2_;have GW151:=n3_;have GE151:=n4_;have NB150_151:=n5_;have NB151_150:=n6_;clear n0_ n1_ n2_ n3_ n4_ n5_ n6_;clear hb hbox hg;have hnb39:=NB150_151.out;have hnc39:=NB151_150.out;have hcz40_0 : w38.cell? ⟨gb150,0,none⟩ = some (.int .i64 a0_0):=(kC BK150.out 0).trans rfl;have hcz40_1 : w38.cell? ⟨gb150,1,none⟩ = some (.int .i64 a0_1):=(kC BK150.out 1).trans rfl;have hcz40_2 : w38.cell? ⟨gb150,2,none⟩ = some (.int .i64 a0_2):=(kC BK150.out 2).trans rfl;have hcz40_3 : w38.cell? ⟨gb150,3,none⟩ = some (.int .i64 a0_3):=(kC BK150.out 3).trans rfl;have hfz40_0:=blk_frozen BK150.out 0;have hfz40_1:=blk_frozen BK150.out 1;have hfz40_2:=blk_frozen BK150.out 2;have hfz40_3:=blk_frozen BK150.out 3)|((with_reducible refine gate_callee (f:=57) rfl ?_);refine goesL_ (some 6) rfl rfl Try.func57 (by kernel_rfl) rfl #[.agg #[.int .i64 a0_0,.int .i64 a0_1,.int .i64 a0_2,.int .i64 a0_3]] rfl (by (try simp only [List.map_toArray,List.map_cons,List.map_nil]);first|done|rfl|(simp only [List.length_drop,List.length_take];rfl)) ?_;(with_reducible refine (key_box.calls a0_0 a0_1 a0_2 a0_3 true _ A3.out).mono ?_);rintro e w41 ⟨rfl,hb⟩;refine ⟨_,rfl,?_⟩;have n0_:=Kb BK150 hb;have n1_:=Kb BK151 hb;have n2_:=Kh HB hb;clear BK150;clear BK151;clear HB;have BK150:=n0_;have BK151:=n1_;have HB:=n2_;clear n0_ n1_ n2_;(try clear hb);(try clear hb2);(try clear hk);(try clear hi);have hcz42_0 : w41.cell? ⟨gb151,0,none⟩ = some (.int .i64 a1_0):=(kC BK151.out 0).trans rfl;have hcz42_1 : w41.cell? ⟨gb151,1,none⟩ = some (.int .i64 a1_1):=(kC BK151.out 1).trans rfl;have hcz42_2 : w41.cell? ⟨gb151,2,none⟩ = some (.int .i64 a1_2):=(kC BK151.out 2).trans rfl;have hcz42_3 : w41.cell? ⟨gb151,3,none⟩ = some (.int .i64 a1_3):=(kC BK151.out 3).trans rfl;have hfz42_0:=blk_frozen BK151.out 0;have hfz42_1:=blk_frozen BK151.out 1;have hfz42_2:=blk_frozen BK151.out 2;have hfz42_3:=blk_frozen BK151.out 3)|(go_at_call 57;(with_reducible refine (key_box.calls a1_0 a1_1 a1_2 a1_3 true _ A5.out).mono ?_);rintro e w43 ⟨rfl,hb⟩;have n0_:=Kb BK150 hb;have n1_:=Kb BK151 hb;have n2_:=Kh HB hb;clear BK150;clear BK151;clear HB;have BK150:=n0_;have BK151:=n1_;have HB:=n2_;clear n0_ n1_ n2_;(try clear hb);(try clear hb2);(try clear hk);(try clear hi);have hcz44_0 : w43.cell? ⟨gb150,0,none⟩ = some (.int .i64 a0_0):=(kC BK150.out 0).trans rfl;have hcz44_1 : w43.cell? ⟨gb150,1,none⟩ = some (.int .i64 a0_1):=(kC BK150.out 1).trans rfl;have hcz44_2 : w43.cell? ⟨gb150,2,none⟩ = some (.int .i64 a0_2):=(kC BK150.out 2).trans rfl;have hcz44_3 : w43.cell? ⟨gb150,3,none⟩ = some (.int .i64 a0_3):=(kC BK150.out 3).trans rfl;have hfz44_0:=blk_frozen BK150.out 0;have hfz44_1:=blk_frozen BK150.out 1;have hfz44_2:=blk_frozen BK150.out 2;have hfz44_3:=blk_frozen BK150.out 3;have hcz45_0 : w43.cell? ⟨gb151,0,none⟩ = some (.int .i64 a1_0):=(kC BK151.out 0).trans rfl;have hcz45_1 : w43.cell? ⟨gb151,1,none⟩ = some (.int .i64 a1_1):=(kC BK151.out 1).trans rfl;have hcz45_2 : w43.cell? ⟨gb151,2,none⟩ = some (.int .i64 a1_2):=(kC BK151.out 2).trans rfl;have hcz45_3 : w43.cell? ⟨gb151,3,none⟩ = some (.int .i64 a1_3):=(kC BK151.out 3).trans rfl;have hfz45_0:=blk_frozen BK151.out 0;have hfz45_1:=blk_frozen BK151.out 1;have hfz45_2:=blk_frozen BK151.out 2;have hfz45_3:=blk_frozen BK151.out 3))
    go_ret
    exact ⟨by first|rfl|(simp [errW_none,errW_some] <;> rfl)|(simp [*,errW_none,errW_some] <;> rfl),by repeat (first|(with_reducible first|exact HB.out|apply bA|apply bN|apply bD|refine bS ?_ GE150.out|refine bS ?_ GE151.out)|exact HB.out)⟩
  ·replace c6:=Bool.eq_false_iff.mpr c6
   subst c6
   have H1 : (some false) = some r:=by rw [if_neg (show ¬ (false = true) by decide)] at H;exact H
   clear H
   have H:=H1
   clear H1
   obtain rfl:=Option.some.inj H
   go_enter Try.func34,Try.ntmps34
   go_wp2_with (first|((with_reducible refine gate_dst (N:=2) rfl ?_);refine box_event ?hg (N:=2) ?hd (cs:=#[.int .i64 a0_0,.int .i64 a0_1,.int .i64 a0_2,.int .i64 a0_3]) (t:=35) ?hr ?_;(case hd => rfl);(case hg => rfl);(case hr => first|(go_simp;done)|(go_simp;rfl));intro gb150 hg w46 hbox hb;have n0_:=Kh HB hb;have n1_:=Ak (hbox);have n2_:=Ak ((by rw [hg];exact (below_size HB.out) : w.heap.size ≤ gb150));have n3_:=Ak ((by rw [hg];exact (below_size HB.out) : w.heap.size ≤ gb150));clear HB;have HB:=n0_;have BK150:=n1_;have GW150:=n2_;have GE150:=n3_;clear n0_ n1_ n2_ n3_;clear hb hbox hg)|((with_reducible refine gate_dst (N:=3) rfl ?_);refine box_event ?hg (N:=3) ?hd (cs:=#[.int .i64 a1_0,.int .i64 a1_1,.int .i64 a1_2,.int .i64 a1_3]) (t:=35) ?hr ?_;(case hd => rfl);(case hg => rfl);(case hr => first|(go_simp;done)|(go_simp;rfl));intro gb151 hg w47 hbox hb;have n0_:=Kb BK150 hb;have n1_:=Kh HB hb;have n2_:=Ak (hbox);have n3_:=Ak ((by rw [hg];exact (below_size HB.out) : w.heap.size ≤ gb151));have n4_:=Ak ((by rw [hg];exact (below_size HB.out) : w.heap.size ≤ gb151));have n5_:=Ak ((by rw [hg];exact Nat.ne_of_lt (blk_lt (g:=gb150) (o:=.cells #[.int .i64 a0_0,.int .i64 a0_1,.int .i64 a0_2,.int .i64 a0_3] 35 (0,0)) BK150.out) : gb150 ≠ gb151));have n6_:=Ak ((by rw [hg];exact Nat.ne_of_gt (blk_lt (g:=gb150) (o:=.cells #[.int .i64 a0_0,.int .i64 a0_1,.int .i64 a0_2,.int .i64 a0_3] 35 (0,0)) BK150.out) : gb151 ≠ gb150));clear BK150;clear HB;have BK150:=n0_;have HB:=n1_;have BK151:=n2_;have GW151:=n3_;have GE151:=n4_;have NB150_151:=n5_;have NB151_150:=n6_;clear n0_ n1_ n2_ n3_ n4_ n5_ n6_;clear hb hbox hg;have hnb48:=NB150_151.out;have hnc48:=NB151_150.out;have hcz49_0 : w47.cell? ⟨gb150,0,none⟩ = some (.int .i64 a0_0):=(kC BK150.out 0).trans rfl;have hcz49_1 : w47.cell? ⟨gb150,1,none⟩ = some (.int .i64 a0_1):=(kC BK150.out 1).trans rfl;have hcz49_2 : w47.cell? ⟨gb150,2,none⟩ = some (.int .i64 a0_2):=(kC BK150.out 2).trans rfl;have hcz49_3 : w47.cell? ⟨gb150,3,none⟩ = some (.int .i64 a0_3):=(kC BK150.out 3).trans rfl;have hfz49_0:=blk_frozen BK150.out 0;have hfz49_1:=blk_frozen BK150.out 1;have hfz49_2:=blk_frozen BK150.out 2;have hfz49_3:=blk_frozen BK150.out 3)|((with_reducible refine gate_callee (f:=57) rfl ?_);refine goesL_ (some 6) rfl rfl Try.func57 (by kernel_rfl) rfl #[.agg #[.int .i64 a0_0,.int .i64 a0_1,.int .i64 a0_2,.int .i64 a0_3]] rfl (by (try simp only [List.map_toArray,List.map_cons,List.map_nil]);first|done|rfl|(simp only [List.length_drop,List.length_take];rfl)) ?_;(with_reducible refine (key_box.calls a0_0 a0_1 a0_2 a0_3 true _ A3.out).mono ?_);rintro e w50 ⟨rfl,hb⟩;refine ⟨_,rfl,?_⟩;have n0_:=Kb BK150 hb;have n1_:=Kb BK151 hb;have n2_:=Kh HB hb;clear BK150;clear BK151;clear HB;have BK150:=n0_;have BK151:=n1_;have HB:=n2_;clear n0_ n1_ n2_;(try clear hb);(try clear hb2);(try clear hk);(try clear hi);have hcz51_0 : w50.cell? ⟨gb151,0,none⟩ = some (.int .i64 a1_0):=(kC BK151.out 0).trans rfl;have hcz51_1 : w50.cell? ⟨gb151,1,none⟩ = some (.int .i64 a1_1):=(kC BK151.out 1).trans rfl;have hcz51_2 : w50.cell? ⟨gb151,2,none⟩ = some (.int .i64 a1_2):=(kC BK151.out 2).trans rfl;have hcz51_3 : w50.cell? ⟨gb151,3,none⟩ = some (.int .i64 a1_3):=(kC BK151.out 3).trans rfl;have hfz51_0:=blk_frozen BK151.out 0;have hfz51_1:=blk_frozen BK151.out 1;have hfz51_2:=blk_frozen BK151.out 2;have hfz51_3:=blk_frozen BK151.out 3)|(go_at_call 57;(with_reducible refine (key_box.calls a1_0 a1_1 a1_2 a1_3 false _ A5.out).mono ?_);rintro e w52 ⟨rfl,hb⟩;have n0_:=Kb BK150 hb;have n1_:=Kb BK151 hb;have n2_:=Kh HB hb;clear BK150;clear BK151;clear HB;have BK150:=n0_;have BK151:=n1_;have HB:=n2_;clear n0_ n1_ n2_;(try clear hb);(try clear hb2);(try clear hk);(try clear hi)))
   go_ret
   exact ⟨by first|rfl|(simp [errW_none,errW_some] <;> rfl)|(simp [*,errW_none,errW_some] <;> rfl),by repeat (first|(with_reducible first|exact HB.out|apply bA|apply bN|apply bD|refine bS ?_ GE150.out|refine bS ?_ GE151.out)|exact HB.out)⟩
 ·replace c4:=Bool.eq_false_iff.mpr c4
  subst c4
  have H1 : (some false) = some r:=by rw [if_neg (show ¬ (false = true) by decide)] at H;exact H
  clear H
  have H:=H1
  clear H1
  obtain rfl:=Option.some.inj H
  go_enter Try.func34,Try.ntmps34
  go_wp2_with (first|((with_reducible refine gate_dst (N:=2) rfl ?_);refine box_event ?hg (N:=2) ?hd (cs:=#[.int .i64 a0_0,.int .i64 a0_1,.int .i64 a0_2,.int .i64 a0_3]) (t:=35) ?hr ?_;(case hd => rfl);(case hg => rfl);(case hr => first|(go_simp;done)|(go_simp;rfl));intro gb150 hg w53 hbox hb;have n0_:=Kh HB hb;have n1_:=Ak (hbox);have n2_:=Ak ((by rw [hg];exact (below_size HB.out) : w.heap.size ≤ gb150));have n3_:=Ak ((by rw [hg];exact (below_size HB.out) : w.heap.size ≤ gb150));clear HB;have HB:=n0_;have BK150:=n1_;have GW150:=n2_;have GE150:=n3_;clear n0_ n1_ n2_ n3_;clear hb hbox hg)|((with_reducible refine gate_dst (N:=3) rfl ?_);refine box_event ?hg (N:=3) ?hd (cs:=#[.int .i64 a1_0,.int .i64 a1_1,.int .i64 a1_2,.int .i64 a1_3]) (t:=35) ?hr ?_;(case hd => rfl);(case hg => rfl);(case hr => first|(go_simp;done)|(go_simp;rfl));intro gb151 hg w54 hbox hb;have n0_:=Kb BK150 hb;have n1_:=Kh HB hb;have n2_:=Ak (hbox);have n3_:=Ak ((by rw [hg];exact (below_size HB.out) : w.heap.size ≤ gb151));have n4_:=Ak ((by rw [hg];exact (below_size HB.out) : w.heap.size ≤ gb151));have n5_:=Ak ((by rw [hg];exact Nat.ne_of_lt (blk_lt (g:=gb150) (o:=.cells #[.int .i64 a0_0,.int .i64 a0_1,.int .i64 a0_2,.int .i64 a0_3] 35 (0,0)) BK150.out) : gb150 ≠ gb151));have n6_:=Ak ((by rw [hg];exact Nat.ne_of_gt (blk_lt (g:=gb150) (o:=.cells #[.int .i64 a0_0,.int .i64 a0_1,.int .i64 a0_2,.int .i64 a0_3] 35 (0,0)) BK150.out) : gb151 ≠ gb150));clear BK150;clear HB;have BK150:=n0_;have HB:=n1_;have BK151:=n2_;have GW151:=n3_;have GE151:=n4_;have NB150_151:=n5_;have NB151_150:=n6_;clear n0_ n1_ n2_ n3_ n4_ n5_ n6_;clear hb hbox hg;have hnb55:=NB150_151.out;have hnc55:=NB151_150.out;have hcz56_0 : w54.cell? ⟨gb150,0,none⟩ = some (.int .i64 a0_0):=(kC BK150.out 0).trans rfl;have hcz56_1 : w54.cell? ⟨gb150,1,none⟩ = some (.int .i64 a0_1):=(kC BK150.out 1).trans rfl;have hcz56_2 : w54.cell? ⟨gb150,2,none⟩ = some (.int .i64 a0_2):=(kC BK150.out 2).trans rfl;have hcz56_3 : w54.cell? ⟨gb150,3,none⟩ = some (.int .i64 a0_3):=(kC BK150.out 3).trans rfl;have hfz56_0:=blk_frozen BK150.out 0;have hfz56_1:=blk_frozen BK150.out 1;have hfz56_2:=blk_frozen BK150.out 2;have hfz56_3:=blk_frozen BK150.out 3)|((with_reducible refine gate_callee (f:=57) rfl ?_);refine goesL_ (some 6) rfl rfl Try.func57 (by kernel_rfl) rfl #[.agg #[.int .i64 a0_0,.int .i64 a0_1,.int .i64 a0_2,.int .i64 a0_3]] rfl (by (try simp only [List.map_toArray,List.map_cons,List.map_nil]);first|done|rfl|(simp only [List.length_drop,List.length_take];rfl)) ?_;(with_reducible refine (key_box.calls a0_0 a0_1 a0_2 a0_3 false _ A3.out).mono ?_);rintro e w57 ⟨rfl,hb⟩;refine ⟨_,rfl,?_⟩;have n0_:=Kb BK150 hb;have n1_:=Kb BK151 hb;have n2_:=Kh HB hb;clear BK150;clear BK151;clear HB;have BK150:=n0_;have BK151:=n1_;have HB:=n2_;clear n0_ n1_ n2_;(try clear hb);(try clear hb2);(try clear hk);(try clear hi)))
  go_ret
  exact ⟨by first|rfl|(simp [errW_none,errW_some] <;> rfl)|(simp [*,errW_none,errW_some] <;> rfl),by repeat (first|(with_reducible first|exact HB.out|apply bA|apply bN|apply bD|refine bS ?_ GE150.out|refine bS ?_ GE151.out)|exact HB.out)⟩
def gazetteerlaw09_wakes.f (k : Nat)  : Option (Bool) := (key_Part.f k (([(⟨0, 0, 0, 0⟩ : S35), (⟨1, 1, 0, 0⟩ : S35), (⟨9, 9, 9, 9⟩ : S35), (⟨8, 8, 9, 9⟩ : S35)] : List (S35)))).bind fun bt157 => (if bt157.2.2 = 0 then (if (bt157.1.length : Int) = 2 then (if (bt157.2.1.length : Int) = 2 then (if 1 < (bt157.1.length : Int) then (if (rd bt157.1 1) = 1 then (if 0 < (bt157.2.1.length : Int) then (if (rd bt157.2.1 0) = 2 then ((key_Meets.f 0 2 0 2 2 3 2 3).bind fun t166 => (some t166)) else (some false)) else (none)) else (some false)) else (none)) else (some false)) else (some false)) else (some false))
set_option maxHeartbeats 8000000 in
set_option maxRecDepth 100000 in
theorem gazetteerlaw09_wakes.calls (k : Nat)  (r : Bool) (w : World) (h : gazetteerlaw09_wakes.f k  = some r) :
  Calls Try.prog 32 #[] w fun e w' => e = .returned (.bool r)∧Below w.heap.size w w':=by
 have hu35:=Try.underlying35
 have HB:=Ak (Below.refl w.heap.size w)
 have H : ((key_Part.f k (([(⟨0,0,0,0⟩ : S35),(⟨1,1,0,0⟩ : S35),(⟨9,9,9,9⟩ : S35),(⟨8,8,9,9⟩ : S35)] : List (S35)))).bind fun bt157 => (if bt157.2.2 = 0 then (if (bt157.1.length : Int) = 2 then (if (bt157.2.1.length : Int) = 2 then (if 1 < (bt157.1.length : Int) then (if (rd bt157.1 1) = 1 then (if 0 < (bt157.2.1.length : Int) then (if (rd bt157.2.1 0) = 2 then ((key_Meets.f 0 2 0 2 2 3 2 3).bind fun t166 => (some t166)) else (some false)) else (none)) else (some false)) else (none)) else (some false)) else (some false)) else (some false))) = some r:=h
 clear h
 obtain ⟨y154,hy154⟩ : ∃ y_ : List (S35),y_ = (([(⟨0,0,0,0⟩ : S35),(⟨1,1,0,0⟩ : S35),(⟨9,9,9,9⟩ : S35),(⟨8,8,9,9⟩ : S35)] : List (S35))):=⟨_,rfl⟩
 replace H : ((key_Part.f k y154).bind fun bt157 => (if bt157.2.2 = 0 then (if (bt157.1.length : Int) = 2 then (if (bt157.2.1.length : Int) = 2 then (if 1 < (bt157.1.length : Int) then (if (rd bt157.1 1) = 1 then (if 0 < (bt157.2.1.length : Int) then (if (rd bt157.2.1 0) = 2 then ((key_Meets.f 0 2 0 2 2 3 2 3).bind fun t166 => (some t166)) else (some false)) else (none)) else (some false)) else (none)) else (some false)) else (some false)) else (some false))) = some r:=by first|(rw [hy154];with_reducible exact H)|(have H2_:=(Option.bind_some _ _).symm.trans H;rw [hy154];with_reducible exact H2_)|(have H2_:=(Option.bind_some _ _).symm.trans H;with_reducible exact H2_)|with_reducible exact H|(rw [hy154];exact H)|exact H
 have Ny154:=Ak hy154
 clear hy154
 replace H:=Option.bind_eq_some_iff.mp H
 obtain ⟨⟨t157,t158,t159⟩,A10,H⟩:=H
 replace H : (if t159 = 0 then (if (t157.length : Int) = 2 then (if (t158.length : Int) = 2 then (if 1 < (t157.length : Int) then (if (rd t157 1) = 1 then (if 0 < (t158.length : Int) then (if (rd t158 0) = 2 then ((key_Meets.f 0 2 0 2 2 3 2 3).bind fun t166 => (some t166)) else (some false)) else (none)) else (some false)) else (none)) else (some false)) else (some false)) else (some false)) = some r:=H
 have A1:=Ak A10
 clear A10
 by_cases c2 : t159 = 0
 ·rw [if_pos c2] at H
  have c2b0 : (t159 == 0) = true:=beq_iff_eq.mpr c2
  have c2b1 : (t159 != 0) = false:=bne_eq_false_iff_eq.mpr c2
  clear c2
  by_cases c3 : (t157.length : Int) = 2
  ·rw [if_pos c3] at H
   have c3b0 : ((t157.length : Int) == 2) = true:=beq_iff_eq.mpr c3
   have c3b1 : ((t157.length : Int) != 2) = false:=bne_eq_false_iff_eq.mpr c3
   clear c3
   by_cases c4 : (t158.length : Int) = 2
   ·rw [if_pos c4] at H
    have c4b0 : ((t158.length : Int) == 2) = true:=beq_iff_eq.mpr c4
    have c4b1 : ((t158.length : Int) != 2) = false:=bne_eq_false_iff_eq.mpr c4
    clear c4
    by_cases c5 : 1 < (t157.length : Int)
    ·rw [if_pos c5] at H
     have c5b0 : decide (1 < (t157.length : Int)) = true:=decide_eq_true c5
     have c5b1 : decide (1 < t157.length) = true:=decide_eq_true (by omega)
     clear c5
     by_cases c6 : (rd t157 1) = 1
     ·rw [if_pos c6] at H
      have c6b0 : ((rd t157 1) == 1) = true:=beq_iff_eq.mpr c6
      have c6b1 : ((rd t157 1) != 1) = false:=bne_eq_false_iff_eq.mpr c6
      clear c6
      by_cases c7 : 0 < (t158.length : Int)
      ·rw [if_pos c7] at H
       have c7b0 : decide (0 < (t158.length : Int)) = true:=decide_eq_true c7
       have c7b1 : decide (0 < t158.length) = true:=decide_eq_true (by omega)
       clear c7
       by_cases c8 : (rd t158 0) = 2
       ·rw [if_pos c8] at H
        have c8b0 : ((rd t158 0) == 2) = true:=beq_iff_eq.mpr c8
        have c8b1 : ((rd t158 0) != 2) = false:=bne_eq_false_iff_eq.mpr c8
        clear c8
        replace H:=Option.bind_eq_some_iff.mp H
        obtain ⟨t166,A90,H⟩:=H
        replace H : (some t166) = some r:=H
        have A9:=Ak A90
        clear A90
        obtain rfl:=Option.some.inj H
        go_enter Try.func32,Try.ntmps32
        go_wp2_with (first|((with_reducible refine gate_dst (N:=9) rfl ?_);(try (refine gate_guard (by rfl) ?_;dsimp only));refine Kd.R_lit k35 _ 35 ?hg (N:=9) ?hd (xs:=([(⟨0,0,0,0⟩ : S35),(⟨1,1,0,0⟩ : S35),(⟨9,9,9,9⟩ : S35),(⟨8,8,9,9⟩ : S35)] : List (S35))) (inner:=[.int .i64 0,.int .i64 0,.int .i64 0,.int .i64 0,.int .i64 1,.int .i64 1,.int .i64 0,.int .i64 0,.int .i64 9,.int .i64 9,.int .i64 9,.int .i64 9,.int .i64 8,.int .i64 8,.int .i64 9,.int .i64 9]) (ok:=fun _ => True) (okp:=fun _ => True) ?hr ?hp (fun _ hk => hk) trivial (Below.refl _ _) (Nat.le_refl _) (by simp) ?_;(case hd => rfl);(case hg => rfl);(case hr => first|(go_simp;done)|(go_simp;rfl));(case hp => exact (Reps.c4 (show Kd.M k35 _ _ _ (⟨0,0,0,0⟩ : S35) [.int .i64 0,.int .i64 0,.int .i64 0,.int .i64 0] from (k35_mkM _ _ _ (⟨0,0,0,0⟩ : S35) )) (Reps.c4 (show Kd.M k35 _ _ _ (⟨1,1,0,0⟩ : S35) [.int .i64 1,.int .i64 1,.int .i64 0,.int .i64 0] from (k35_mkM _ _ _ (⟨1,1,0,0⟩ : S35) )) (Reps.c4 (show Kd.M k35 _ _ _ (⟨9,9,9,9⟩ : S35) [.int .i64 9,.int .i64 9,.int .i64 9,.int .i64 9] from (k35_mkM _ _ _ (⟨9,9,9,9⟩ : S35) )) (Reps.c4 (show Kd.M k35 _ _ _ (⟨8,8,9,9⟩ : S35) [.int .i64 8,.int .i64 8,.int .i64 9,.int .i64 9] from (k35_mkM _ _ _ (⟨8,8,9,9⟩ : S35) )) (Reps.none _ _))))));intro v155 w10 ho11 hb hg_ hnew_;clear hg_ hnew_;(first|rw [← Ny154.out] at ho11|(simp only [Int.reduceToNat] at ho11;rw [← Ny154.out] at ho11));have n0_:=Ak (Kd.R_lower ho11 (below_size HB.out));have n1_:=Kh HB hb;clear HB;have HO156:=n0_;have HB:=n1_;clear n0_ n1_;clear hb ho11;obtain ⟨Ao12,co12,eo12⟩:=Kd.R_slice HO156.out;subst eo12)|((with_reducible refine gate_callee (f:=33) rfl ?_);refine goesL_ (some 10) rfl rfl Try.func33 (by kernel_rfl) rfl #[.slice Ao12 y154.length co12] rfl (by (try simp only [List.map_toArray,List.map_cons,List.map_nil]);first|done|rfl|(simp only [List.length_drop,List.length_take];rfl)) ?_;(with_reducible refine (key_Part.calls k _ _ y154 t157 t158 t159 _ ?side1 ?side2 A1.out).mono ?_);(case side1 => repeat (first|exact (Kd.R_reads' HO156.out).2.2|(with_reducible refine Kd.C_alloc ?_ _)|(with_reducible refine Kd.C_drewN ?_ _)|(with_reducible refine Kd.C_drew ?_)));(case side2 => exact (Kd.R_reads' HO156.out).2.1);rintro e w13 ⟨v160,v162,rfl,ho0,ho1,hb⟩;refine ⟨_,rfl,?_⟩;have n0_:=Ak (Kd.R_below (by (with_reducible repeat (first|apply Kd.R_alloc|apply Kd.R_drewN|apply Kd.R_drew));exact HO156.out) hb);have n1_:=Ak (Kd.R_lower ho0 (below_size HB.out));have n2_:=Ak (Kd.R_lower ho1 (below_size HB.out));have n3_:=Kh HB hb;clear HO156;clear HB;have HO156:=n0_;have HO161:=n1_;have HO163:=n2_;have HB:=n3_;clear n0_ n1_ n2_ n3_;(try clear hb);(try clear hb2);(try clear hk);(try clear hi);(try clear ho0);(try clear ho1);obtain ⟨Ao14,co14,eo14⟩:=Kd.R_slice HO161.out;subst eo14;obtain ⟨Ao15,co15,eo15⟩:=Kd.R_slice HO163.out;subst eo15;have p164 : 0 ≤ (1 : Int):=(by omega);have q164 : 1 < (t157.length : Int):=of_decide_eq_true (by first|(with_reducible assumption)|assumption);obtain ⟨ad164,e164,hx164_0⟩:=Kd.at_int (Kd.R_reads' HO161.out).2.2 1 p164 q164;cases e164;(try simp only [show (1 : Int).toNat = 1 from rfl,Nat.reduceMul,Nat.reduceEqDiff,Go.Addr.add,↓reduceIte] at hx164_0);have qi164 : (1 < t157.length) = True:=eq_true (by omega);(try rw [show ((1 : Int)).toNat = 1 from rfl] at hx164_0);replace p164:=eq_true p164;replace q164:=eq_true q164;have p165 : 0 ≤ (0 : Int):=(by omega);have q165 : 0 < (t158.length : Int):=of_decide_eq_true (by first|(with_reducible assumption)|assumption);obtain ⟨ad165,e165,hx165_0⟩:=Kd.at_int (Kd.R_reads' HO163.out).2.2 0 p165 q165;cases e165;have qi165 : (0 < t158.length) = True:=eq_true (by omega);(try rw [show ((0 : Int)).toNat = 0 from rfl] at hx165_0);(try rw [Addr.add_zero'] at hx165_0);replace p165:=eq_true p165;replace q165:=eq_true q165)|(go_at_call 34;(with_reducible refine (key_Meets.calls 0 2 0 2 2 3 2 3 t166 _ A9.out).mono ?_);rintro e w16 ⟨rfl,hb⟩;have n0_:=Ak (Kd.R_below (by (with_reducible repeat (first|apply Kd.R_alloc|apply Kd.R_drewN|apply Kd.R_drew));exact HO156.out) hb);have n1_:=Ak (Kd.R_below (by (with_reducible repeat (first|apply Kd.R_alloc|apply Kd.R_drewN|apply Kd.R_drew));exact HO161.out) hb);have n2_:=Ak (Kd.R_below (by (with_reducible repeat (first|apply Kd.R_alloc|apply Kd.R_drewN|apply Kd.R_drew));exact HO163.out) hb);have n3_:=Kh HB hb;clear HO156;clear HO161;clear HO163;clear HB;have HO156:=n0_;have HO161:=n1_;have HO163:=n2_;have HB:=n3_;clear n0_ n1_ n2_ n3_;(try clear hb);(try clear hb2);(try clear hk);(try clear hi)))
        go_ret
        exact ⟨by first|rfl|(simp [errW_none,errW_some] <;> rfl)|(simp [*,errW_none,errW_some] <;> rfl),by repeat (first|(with_reducible first|exact HB.out|apply bA|apply bN|apply bD)|exact HB.out)⟩
       ·rw [if_neg c8] at H
        have c8b0 : ((rd t158 0) == 2) = false:=beq_eq_false_iff_ne.mpr c8
        have c8b1 : ((rd t158 0) != 2) = true:=bne_iff_ne.mpr c8
        obtain rfl:=Option.some.inj H
        go_enter Try.func32,Try.ntmps32
        go_wp2_with (first|((with_reducible refine gate_dst (N:=9) rfl ?_);(try (refine gate_guard (by rfl) ?_;dsimp only));refine Kd.R_lit k35 _ 35 ?hg (N:=9) ?hd (xs:=([(⟨0,0,0,0⟩ : S35),(⟨1,1,0,0⟩ : S35),(⟨9,9,9,9⟩ : S35),(⟨8,8,9,9⟩ : S35)] : List (S35))) (inner:=[.int .i64 0,.int .i64 0,.int .i64 0,.int .i64 0,.int .i64 1,.int .i64 1,.int .i64 0,.int .i64 0,.int .i64 9,.int .i64 9,.int .i64 9,.int .i64 9,.int .i64 8,.int .i64 8,.int .i64 9,.int .i64 9]) (ok:=fun _ => True) (okp:=fun _ => True) ?hr ?hp (fun _ hk => hk) trivial (Below.refl _ _) (Nat.le_refl _) (by simp) ?_;(case hd => rfl);(case hg => rfl);(case hr => first|(go_simp;done)|(go_simp;rfl));(case hp => exact (Reps.c4 (show Kd.M k35 _ _ _ (⟨0,0,0,0⟩ : S35) [.int .i64 0,.int .i64 0,.int .i64 0,.int .i64 0] from (k35_mkM _ _ _ (⟨0,0,0,0⟩ : S35) )) (Reps.c4 (show Kd.M k35 _ _ _ (⟨1,1,0,0⟩ : S35) [.int .i64 1,.int .i64 1,.int .i64 0,.int .i64 0] from (k35_mkM _ _ _ (⟨1,1,0,0⟩ : S35) )) (Reps.c4 (show Kd.M k35 _ _ _ (⟨9,9,9,9⟩ : S35) [.int .i64 9,.int .i64 9,.int .i64 9,.int .i64 9] from (k35_mkM _ _ _ (⟨9,9,9,9⟩ : S35) )) (Reps.c4 (show Kd.M k35 _ _ _ (⟨8,8,9,9⟩ : S35) [.int .i64 8,.int .i64 8,.int .i64 9,.int .i64 9] from (k35_mkM _ _ _ (⟨8,8,9,9⟩ : S35) )) (Reps.none _ _))))));intro v155 w17 ho18 hb hg_ hnew_;clear hg_ hnew_;(first|rw [← Ny154.out] at ho18|(simp only [Int.reduceToNat] at ho18;rw [← Ny154.out] at ho18));have n0_:=Ak (Kd.R_lower ho18 (below_size HB.out));have n1_:=Kh HB hb;clear HB;have HO156:=n0_;have HB:=n1_;clear n0_ n1_;clear hb ho18;obtain ⟨Ao19,co19,eo19⟩:=Kd.R_slice HO156.out;subst eo19)|((with_reducible refine gate_callee (f:=33) rfl ?_);refine goesL_ (some 10) rfl rfl Try.func33 (by kernel_rfl) rfl #[.slice Ao19 y154.length co19] rfl (by (try simp only [List.map_toArray,List.map_cons,List.map_nil]);first|done|rfl|(simp only [List.length_drop,List.length_take];rfl)) ?_;(with_reducible refine (key_Part.calls k _ _ y154 t157 t158 t159 _ ?side1 ?side2 A1.out).mono ?_);(case side1 => repeat (first|exact (Kd.R_reads' HO156.out).2.2|(with_reducible refine Kd.C_alloc ?_ _)|(with_reducible refine Kd.C_drewN ?_ _)|(with_reducible refine Kd.C_drew ?_)));(case side2 => exact (Kd.R_reads' HO156.out).2.1);rintro e w20 ⟨v160,v162,rfl,ho0,ho1,hb⟩;refine ⟨_,rfl,?_⟩;have n0_:=Ak (Kd.R_below (by (with_reducible repeat (first|apply Kd.R_alloc|apply Kd.R_drewN|apply Kd.R_drew));exact HO156.out) hb);have n1_:=Ak (Kd.R_lower ho0 (below_size HB.out));have n2_:=Ak (Kd.R_lower ho1 (below_size HB.out));have n3_:=Kh HB hb;clear HO156;clear HB;have HO156:=n0_;have HO161:=n1_;have HO163:=n2_;have HB:=n3_;clear n0_ n1_ n2_ n3_;(try clear hb);(try clear hb2);(try clear hk);(try clear hi);(try clear ho0);(try clear ho1);obtain ⟨Ao21,co21,eo21⟩:=Kd.R_slice HO161.out;subst eo21;obtain ⟨Ao22,co22,eo22⟩:=Kd.R_slice HO163.out;subst eo22;have p164 : 0 ≤ (1 : Int):=(by omega);have q164 : 1 < (t157.length : Int):=of_decide_eq_true (by first|(with_reducible assumption)|assumption);obtain ⟨ad164,e164,hx164_0⟩:=Kd.at_int (Kd.R_reads' HO161.out).2.2 1 p164 q164;cases e164;(try simp only [show (1 : Int).toNat = 1 from rfl,Nat.reduceMul,Nat.reduceEqDiff,Go.Addr.add,↓reduceIte] at hx164_0);have qi164 : (1 < t157.length) = True:=eq_true (by omega);(try rw [show ((1 : Int)).toNat = 1 from rfl] at hx164_0);replace p164:=eq_true p164;replace q164:=eq_true q164;have p165 : 0 ≤ (0 : Int):=(by omega);have q165 : 0 < (t158.length : Int):=of_decide_eq_true (by first|(with_reducible assumption)|assumption);obtain ⟨ad165,e165,hx165_0⟩:=Kd.at_int (Kd.R_reads' HO163.out).2.2 0 p165 q165;cases e165;have qi165 : (0 < t158.length) = True:=eq_true (by omega);(try rw [show ((0 : Int)).toNat = 0 from rfl] at hx165_0);(try rw [Addr.add_zero'] at hx165_0);replace p165:=eq_true p165;replace q165:=eq_true q165))
        go_ret
        exact ⟨by first|rfl|(simp [errW_none,errW_some] <;> rfl)|(simp [*,errW_none,errW_some] <;> rfl),by repeat (first|(with_reducible first|exact HB.out|apply bA|apply bN|apply bD)|exact HB.out)⟩
      ·rw [if_neg c7] at H
       exact absurd H (by simp)
     ·rw [if_neg c6] at H
      have c6b0 : ((rd t157 1) == 1) = false:=beq_eq_false_iff_ne.mpr c6
      have c6b1 : ((rd t157 1) != 1) = true:=bne_iff_ne.mpr c6
      obtain rfl:=Option.some.inj H
      go_enter Try.func32,Try.ntmps32
      go_wp2_with (first|((with_reducible refine gate_dst (N:=9) rfl ?_);(try (refine gate_guard (by rfl) ?_;dsimp only));refine Kd.R_lit k35 _ 35 ?hg (N:=9) ?hd (xs:=([(⟨0,0,0,0⟩ : S35),(⟨1,1,0,0⟩ : S35),(⟨9,9,9,9⟩ : S35),(⟨8,8,9,9⟩ : S35)] : List (S35))) (inner:=[.int .i64 0,.int .i64 0,.int .i64 0,.int .i64 0,.int .i64 1,.int .i64 1,.int .i64 0,.int .i64 0,.int .i64 9,.int .i64 9,.int .i64 9,.int .i64 9,.int .i64 8,.int .i64 8,.int .i64 9,.int .i64 9]) (ok:=fun _ => True) (okp:=fun _ => True) ?hr ?hp (fun _ hk => hk) trivial (Below.refl _ _) (Nat.le_refl _) (by simp) ?_;(case hd => rfl);(case hg => rfl);(case hr => first|(go_simp;done)|(go_simp;rfl));(case hp => exact (Reps.c4 (show Kd.M k35 _ _ _ (⟨0,0,0,0⟩ : S35) [.int .i64 0,.int .i64 0,.int .i64 0,.int .i64 0] from (k35_mkM _ _ _ (⟨0,0,0,0⟩ : S35) )) (Reps.c4 (show Kd.M k35 _ _ _ (⟨1,1,0,0⟩ : S35) [.int .i64 1,.int .i64 1,.int .i64 0,.int .i64 0] from (k35_mkM _ _ _ (⟨1,1,0,0⟩ : S35) )) (Reps.c4 (show Kd.M k35 _ _ _ (⟨9,9,9,9⟩ : S35) [.int .i64 9,.int .i64 9,.int .i64 9,.int .i64 9] from (k35_mkM _ _ _ (⟨9,9,9,9⟩ : S35) )) (Reps.c4 (show Kd.M k35 _ _ _ (⟨8,8,9,9⟩ : S35) [.int .i64 8,.int .i64 8,.int .i64 9,.int .i64 9] from (k35_mkM _ _ _ (⟨8,8,9,9⟩ : S35) )) (Reps.none _ _))))));intro v155 w23 ho24 hb hg_ hnew_;clear hg_ hnew_;(first|rw [← Ny154.out] at ho24|(simp only [Int.reduceToNat] at ho24;rw [← Ny154.out] at ho24));have n0_:=Ak (Kd.R_lower ho24 (below_size HB.out));have n1_:=Kh HB hb;clear HB;have HO156:=n0_;have HB:=n1_;clear n0_ n1_;clear hb ho24;obtain ⟨Ao25,co25,eo25⟩:=Kd.R_slice HO156.out;subst eo25)|((with_reducible refine gate_callee (f:=33) rfl ?_);refine goesL_ (some 10) rfl rfl Try.func33 (by kernel_rfl) rfl #[.slice Ao25 y154.length co25] rfl (by (try simp only [List.map_toArray,List.map_cons,List.map_nil]);first|done|rfl|(simp only [List.length_drop,List.length_take];rfl)) ?_;(with_reducible refine (key_Part.calls k _ _ y154 t157 t158 t159 _ ?side1 ?side2 A1.out).mono ?_);(case side1 => repeat (first|exact (Kd.R_reads' HO156.out).2.2|(with_reducible refine Kd.C_alloc ?_ _)|(with_reducible refine Kd.C_drewN ?_ _)|(with_reducible refine Kd.C_drew ?_)));(case side2 => exact (Kd.R_reads' HO156.out).2.1);rintro e w26 ⟨v160,v162,rfl,ho0,ho1,hb⟩;refine ⟨_,rfl,?_⟩;have n0_:=Ak (Kd.R_below (by (with_reducible repeat (first|apply Kd.R_alloc|apply Kd.R_drewN|apply Kd.R_drew));exact HO156.out) hb);have n1_:=Ak (Kd.R_lower ho0 (below_size HB.out));have n2_:=Ak (Kd.R_lower ho1 (below_size HB.out));have n3_:=Kh HB hb;clear HO156;clear HB;have HO156:=n0_;have HO161:=n1_;have HO163:=n2_;have HB:=n3_;clear n0_ n1_ n2_ n3_;(try clear hb);(try clear hb2);(try clear hk);(try clear hi);(try clear ho0);(try clear ho1);obtain ⟨Ao27,co27,eo27⟩:=Kd.R_slice HO161.out;subst eo27;obtain ⟨Ao28,co28,eo28⟩:=Kd.R_slice HO163.out;subst eo28;have p164 : 0 ≤ (1 : Int):=(by omega);have q164 : 1 < (t157.length : Int):=of_decide_eq_true (by first|(with_reducible assumption)|assumption);obtain ⟨ad164,e164,hx164_0⟩:=Kd.at_int (Kd.R_reads' HO161.out).2.2 1 p164 q164;cases e164;(try simp only [show (1 : Int).toNat = 1 from rfl,Nat.reduceMul,Nat.reduceEqDiff,Go.Addr.add,↓reduceIte] at hx164_0);have qi164 : (1 < t157.length) = True:=eq_true (by omega);(try rw [show ((1 : Int)).toNat = 1 from rfl] at hx164_0);replace p164:=eq_true p164;replace q164:=eq_true q164))
      go_ret
      exact ⟨by first|rfl|(simp [errW_none,errW_some] <;> rfl)|(simp [*,errW_none,errW_some] <;> rfl),by repeat (first|(with_reducible first|exact HB.out|apply bA|apply bN|apply bD)|exact HB.out)⟩
    ·rw [if_neg c5] at H
     exact absurd H (by simp)
   ·rw [if_neg c4] at H
    have c4b0 : ((t158.length : Int) == 2) = false:=beq_eq_false_iff_ne.mpr c4
    have c4b1 : ((t158.length : Int) != 2) = true:=bne_iff_ne.mpr c4
    obtain rfl:=Option.some.inj H
    go_enter Try.func32,Try.ntmps32
    go_wp2_with (first|((with_reducible refine gate_dst (N:=9) rfl ?_);(try (refine gate_guard (by rfl) ?_;dsimp only));refine Kd.R_lit k35 _ 35 ?hg (N:=9) ?hd (xs:=([(⟨0,0,0,0⟩ : S35),(⟨1,1,0,0⟩ : S35),(⟨9,9,9,9⟩ : S35),(⟨8,8,9,9⟩ : S35)] : List (S35))) (inner:=[.int .i64 0,.int .i64 0,.int .i64 0,.int .i64 0,.int .i64 1,.int .i64 1,.int .i64 0,.int .i64 0,.int .i64 9,.int .i64 9,.int .i64 9,.int .i64 9,.int .i64 8,.int .i64 8,.int .i64 9,.int .i64 9]) (ok:=fun _ => True) (okp:=fun _ => True) ?hr ?hp (fun _ hk => hk) trivial (Below.refl _ _) (Nat.le_refl _) (by simp) ?_;(case hd => rfl);(case hg => rfl);(case hr => first|(go_simp;done)|(go_simp;rfl));(case hp => exact (Reps.c4 (show Kd.M k35 _ _ _ (⟨0,0,0,0⟩ : S35) [.int .i64 0,.int .i64 0,.int .i64 0,.int .i64 0] from (k35_mkM _ _ _ (⟨0,0,0,0⟩ : S35) )) (Reps.c4 (show Kd.M k35 _ _ _ (⟨1,1,0,0⟩ : S35) [.int .i64 1,.int .i64 1,.int .i64 0,.int .i64 0] from (k35_mkM _ _ _ (⟨1,1,0,0⟩ : S35) )) (Reps.c4 (show Kd.M k35 _ _ _ (⟨9,9,9,9⟩ : S35) [.int .i64 9,.int .i64 9,.int .i64 9,.int .i64 9] from (k35_mkM _ _ _ (⟨9,9,9,9⟩ : S35) )) (Reps.c4 (show Kd.M k35 _ _ _ (⟨8,8,9,9⟩ : S35) [.int .i64 8,.int .i64 8,.int .i64 9,.int .i64 9] from (k35_mkM _ _ _ (⟨8,8,9,9⟩ : S35) )) (Reps.none _ _))))));intro v155 w29 ho30 hb hg_ hnew_;clear hg_ hnew_;(first|rw [← Ny154.out] at ho30|(simp only [Int.reduceToNat] at ho30;rw [← Ny154.out] at ho30));have n0_:=Ak (Kd.R_lower ho30 (below_size HB.out));have n1_:=Kh HB hb;clear HB;have HO156:=n0_;have HB:=n1_;clear n0_ n1_;clear hb ho30;obtain ⟨Ao31,co31,eo31⟩:=Kd.R_slice HO156.out;subst eo31)|((with_reducible refine gate_callee (f:=33) rfl ?_);refine goesL_ (some 10) rfl rfl Try.func33 (by kernel_rfl) rfl #[.slice Ao31 y154.length co31] rfl (by (try simp only [List.map_toArray,List.map_cons,List.map_nil]);first|done|rfl|(simp only [List.length_drop,List.length_take];rfl)) ?_;(with_reducible refine (key_Part.calls k _ _ y154 t157 t158 t159 _ ?side1 ?side2 A1.out).mono ?_);(case side1 => repeat (first|exact (Kd.R_reads' HO156.out).2.2|(with_reducible refine Kd.C_alloc ?_ _)|(with_reducible refine Kd.C_drewN ?_ _)|(with_reducible refine Kd.C_drew ?_)));(case side2 => exact (Kd.R_reads' HO156.out).2.1);rintro e w32 ⟨v160,v162,rfl,ho0,ho1,hb⟩;refine ⟨_,rfl,?_⟩;have n0_:=Ak (Kd.R_below (by (with_reducible repeat (first|apply Kd.R_alloc|apply Kd.R_drewN|apply Kd.R_drew));exact HO156.out) hb);have n1_:=Ak (Kd.R_lower ho0 (below_size HB.out));have n2_:=Ak (Kd.R_lower ho1 (below_size HB.out));have n3_:=Kh HB hb;clear HO156;clear HB;have HO156:=n0_;have HO161:=n1_;have HO163:=n2_;have HB:=n3_;clear n0_ n1_ n2_ n3_;(try clear hb);(try clear hb2);(try clear hk);(try clear hi);(try clear ho0);(try clear ho1);obtain ⟨Ao33,co33,eo33⟩:=Kd.R_slice HO161.out;subst eo33;obtain ⟨Ao34,co34,eo34⟩:=Kd.R_slice HO163.out;subst eo34))
    go_ret
    exact ⟨by first|rfl|(simp [errW_none,errW_some] <;> rfl)|(simp [*,errW_none,errW_some] <;> rfl),by repeat (first|(with_reducible first|exact HB.out|apply bA|apply bN|apply bD)|exact HB.out)⟩
  ·rw [if_neg c3] at H
   have c3b0 : ((t157.length : Int) == 2) = false:=beq_eq_false_iff_ne.mpr c3
   have c3b1 : ((t157.length : Int) != 2) = true:=bne_iff_ne.mpr c3
   obtain rfl:=Option.some.inj H
   go_enter Try.func32,Try.ntmps32
   go_wp2_with (first|((with_reducible refine gate_dst (N:=9) rfl ?_);(try (refine gate_guard (by rfl) ?_;dsimp only));refine Kd.R_lit k35 _ 35 ?hg (N:=9) ?hd (xs:=([(⟨0,0,0,0⟩ : S35),(⟨1,1,0,0⟩ : S35),(⟨9,9,9,9⟩ : S35),(⟨8,8,9,9⟩ : S35)] : List (S35))) (inner:=[.int .i64 0,.int .i64 0,.int .i64 0,.int .i64 0,.int .i64 1,.int .i64 1,.int .i64 0,.int .i64 0,.int .i64 9,.int .i64 9,.int .i64 9,.int .i64 9,.int .i64 8,.int .i64 8,.int .i64 9,.int .i64 9]) (ok:=fun _ => True) (okp:=fun _ => True) ?hr ?hp (fun _ hk => hk) trivial (Below.refl _ _) (Nat.le_refl _) (by simp) ?_;(case hd => rfl);(case hg => rfl);(case hr => first|(go_simp;done)|(go_simp;rfl));(case hp => exact (Reps.c4 (show Kd.M k35 _ _ _ (⟨0,0,0,0⟩ : S35) [.int .i64 0,.int .i64 0,.int .i64 0,.int .i64 0] from (k35_mkM _ _ _ (⟨0,0,0,0⟩ : S35) )) (Reps.c4 (show Kd.M k35 _ _ _ (⟨1,1,0,0⟩ : S35) [.int .i64 1,.int .i64 1,.int .i64 0,.int .i64 0] from (k35_mkM _ _ _ (⟨1,1,0,0⟩ : S35) )) (Reps.c4 (show Kd.M k35 _ _ _ (⟨9,9,9,9⟩ : S35) [.int .i64 9,.int .i64 9,.int .i64 9,.int .i64 9] from (k35_mkM _ _ _ (⟨9,9,9,9⟩ : S35) )) (Reps.c4 (show Kd.M k35 _ _ _ (⟨8,8,9,9⟩ : S35) [.int .i64 8,.int .i64 8,.int .i64 9,.int .i64 9] from (k35_mkM _ _ _ (⟨8,8,9,9⟩ : S35) )) (Reps.none _ _))))));intro v155 w35 ho36 hb hg_ hnew_;clear hg_ hnew_;(first|rw [← Ny154.out] at ho36|(simp only [Int.reduceToNat] at ho36;rw [← Ny154.out] at ho36));have n0_:=Ak (Kd.R_lower ho36 (below_size HB.out));have n1_:=Kh HB hb;clear HB;have HO156:=n0_;have HB:=n1_;clear n0_ n1_;clear hb ho36;obtain ⟨Ao37,co37,eo37⟩:=Kd.R_slice HO156.out;subst eo37)|((with_reducible refine gate_callee (f:=33) rfl ?_);refine goesL_ (some 10) rfl rfl Try.func33 (by kernel_rfl) rfl #[.slice Ao37 y154.length co37] rfl (by (try simp only [List.map_toArray,List.map_cons,List.map_nil]);first|done|rfl|(simp only [List.length_drop,List.length_take];rfl)) ?_;(with_reducible refine (key_Part.calls k _ _ y154 t157 t158 t159 _ ?side1 ?side2 A1.out).mono ?_);(case side1 => repeat (first|exact (Kd.R_reads' HO156.out).2.2|(with_reducible refine Kd.C_alloc ?_ _)|(with_reducible refine Kd.C_drewN ?_ _)|(with_reducible refine Kd.C_drew ?_)));(case side2 => exact (Kd.R_reads' HO156.out).2.1);rintro e w38 ⟨v160,v162,rfl,ho0,ho1,hb⟩;refine ⟨_,rfl,?_⟩;have n0_:=Ak (Kd.R_below (by (with_reducible repeat (first|apply Kd.R_alloc|apply Kd.R_drewN|apply Kd.R_drew));exact HO156.out) hb);have n1_:=Ak (Kd.R_lower ho0 (below_size HB.out));have n2_:=Ak (Kd.R_lower ho1 (below_size HB.out));have n3_:=Kh HB hb;clear HO156;clear HB;have HO156:=n0_;have HO161:=n1_;have HO163:=n2_;have HB:=n3_;clear n0_ n1_ n2_ n3_;(try clear hb);(try clear hb2);(try clear hk);(try clear hi);(try clear ho0);(try clear ho1);obtain ⟨Ao39,co39,eo39⟩:=Kd.R_slice HO161.out;subst eo39))
   go_ret
   exact ⟨by first|rfl|(simp [errW_none,errW_some] <;> rfl)|(simp [*,errW_none,errW_some] <;> rfl),by repeat (first|(with_reducible first|exact HB.out|apply bA|apply bN|apply bD)|exact HB.out)⟩
 ·rw [if_neg c2] at H
  have c2b0 : (t159 == 0) = false:=beq_eq_false_iff_ne.mpr c2
  have c2b1 : (t159 != 0) = true:=bne_iff_ne.mpr c2
  obtain rfl:=Option.some.inj H
  go_enter Try.func32,Try.ntmps32
  go_wp2_with (first|((with_reducible refine gate_dst (N:=9) rfl ?_);(try (refine gate_guard (by rfl) ?_;dsimp only));refine Kd.R_lit k35 _ 35 ?hg (N:=9) ?hd (xs:=([(⟨0,0,0,0⟩ : S35),(⟨1,1,0,0⟩ : S35),(⟨9,9,9,9⟩ : S35),(⟨8,8,9,9⟩ : S35)] : List (S35))) (inner:=[.int .i64 0,.int .i64 0,.int .i64 0,.int .i64 0,.int .i64 1,.int .i64 1,.int .i64 0,.int .i64 0,.int .i64 9,.int .i64 9,.int .i64 9,.int .i64 9,.int .i64 8,.int .i64 8,.int .i64 9,.int .i64 9]) (ok:=fun _ => True) (okp:=fun _ => True) ?hr ?hp (fun _ hk => hk) trivial (Below.refl _ _) (Nat.le_refl _) (by simp) ?_;(case hd => rfl);(case hg => rfl);(case hr => first|(go_simp;done)|(go_simp;rfl));(case hp => exact (Reps.c4 (show Kd.M k35 _ _ _ (⟨0,0,0,0⟩ : S35) [.int .i64 0,.int .i64 0,.int .i64 0,.int .i64 0] from (k35_mkM _ _ _ (⟨0,0,0,0⟩ : S35) )) (Reps.c4 (show Kd.M k35 _ _ _ (⟨1,1,0,0⟩ : S35) [.int .i64 1,.int .i64 1,.int .i64 0,.int .i64 0] from (k35_mkM _ _ _ (⟨1,1,0,0⟩ : S35) )) (Reps.c4 (show Kd.M k35 _ _ _ (⟨9,9,9,9⟩ : S35) [.int .i64 9,.int .i64 9,.int .i64 9,.int .i64 9] from (k35_mkM _ _ _ (⟨9,9,9,9⟩ : S35) )) (Reps.c4 (show Kd.M k35 _ _ _ (⟨8,8,9,9⟩ : S35) [.int .i64 8,.int .i64 8,.int .i64 9,.int .i64 9] from (k35_mkM _ _ _ (⟨8,8,9,9⟩ : S35) )) (Reps.none _ _))))));intro v155 w40 ho41 hb hg_ hnew_;clear hg_ hnew_;(first|rw [← Ny154.out] at ho41|(simp only [Int.reduceToNat] at ho41;rw [← Ny154.out] at ho41));have n0_:=Ak (Kd.R_lower ho41 (below_size HB.out));have n1_:=Kh HB hb;clear HB;have HO156:=n0_;have HB:=n1_;clear n0_ n1_;clear hb ho41;obtain ⟨Ao42,co42,eo42⟩:=Kd.R_slice HO156.out;subst eo42)|((with_reducible refine gate_callee (f:=33) rfl ?_);refine goesL_ (some 10) rfl rfl Try.func33 (by kernel_rfl) rfl #[.slice Ao42 y154.length co42] rfl (by (try simp only [List.map_toArray,List.map_cons,List.map_nil]);first|done|rfl|(simp only [List.length_drop,List.length_take];rfl)) ?_;(with_reducible refine (key_Part.calls k _ _ y154 t157 t158 t159 _ ?side1 ?side2 A1.out).mono ?_);(case side1 => repeat (first|exact (Kd.R_reads' HO156.out).2.2|(with_reducible refine Kd.C_alloc ?_ _)|(with_reducible refine Kd.C_drewN ?_ _)|(with_reducible refine Kd.C_drew ?_)));(case side2 => exact (Kd.R_reads' HO156.out).2.1);rintro e w43 ⟨v160,v162,rfl,ho0,ho1,hb⟩;refine ⟨_,rfl,?_⟩;have n0_:=Ak (Kd.R_below (by (with_reducible repeat (first|apply Kd.R_alloc|apply Kd.R_drewN|apply Kd.R_drew));exact HO156.out) hb);have n1_:=Ak (Kd.R_lower ho0 (below_size HB.out));have n2_:=Ak (Kd.R_lower ho1 (below_size HB.out));have n3_:=Kh HB hb;clear HO156;clear HB;have HO156:=n0_;have HO161:=n1_;have HO163:=n2_;have HB:=n3_;clear n0_ n1_ n2_ n3_;(try clear hb);(try clear hb2);(try clear hk);(try clear hi);(try clear ho0);(try clear ho1)))
  go_ret
  exact ⟨by first|rfl|(simp [errW_none,errW_some] <;> rfl)|(simp [*,errW_none,errW_some] <;> rfl),by repeat (first|(with_reducible first|exact HB.out|apply bA|apply bN|apply bD)|exact HB.out)⟩
end Go.Proofs.Ythlhmijgbjcloaa.A
end
section
namespace Go.Proofs.Ythlhmijgbjcloaa.A
open Go.RowKit Go.Proofs.YthlhmijgbjcloaaW.PrintWords Go.Proofs.YthlhmijgbjcloaaW.PrintLast Go.Proofs.YthlhmijgbjcloaaW.PrintMore
attribute [local go_sem] max2_int min2_int max_two min_two max_three min_three max_four min_four   -- for this text's walks alone
def key_Grows.f (a0_0 : Int) (a0_1 : Int) (a0_2 : Int) (a0_3 : Int) (a1_0 : Int) (a1_1 : Int) (a1_2 : Int) (a1_3 : Int) : Option (Int × Int × Int × Int) := (key_box.f a0_0 a0_1 a0_2 a0_3).bind fun t235 => (if t235 = true then ((key_box.f a1_0 a1_1 a1_2 a1_3).bind fun t236 => (if t236 = true then ((key_grows.f a0_0 a0_1 a0_2 a0_3 a1_0 a1_1 a1_2 a1_3).bind fun bt237 => (some (bt237.1, bt237.2.1, bt237.2.2.1, bt237.2.2.2))) else (some (0, 0, 0, 0)))) else (some (0, 0, 0, 0)))
set_option maxHeartbeats 8000000 in
set_option maxRecDepth 100000 in
theorem key_Grows.calls (a0_0 : Int) (a0_1 : Int) (a0_2 : Int) (a0_3 : Int) (a1_0 : Int) (a1_1 : Int) (a1_2 : Int) (a1_3 : Int) (r1 : Int) (r2 : Int) (r3 : Int) (r4 : Int) (w : World) (h : key_Grows.f a0_0 a0_1 a0_2 a0_3 a1_0 a1_1 a1_2 a1_3 = some (r1,r2,r3,r4)) :
  Calls Try.prog 36 #[.agg #[.int .i64 a0_0,.int .i64 a0_1,.int .i64 a0_2,.int .i64 a0_3],.agg #[.int .i64 a1_0,.int .i64 a1_1,.int .i64 a1_2,.int .i64 a1_3]] w fun e w' => e = .returned (.tuple #[.agg #[.int .u64 r1,.int .u64 r2],.agg #[.int .u64 r3,.int .u64 r4]])∧Below w.heap.size w w':=by
 have hu35:=Try.underlying35
 have hu25:=Try.underlying25
 have hu79:=Try.underlying79
 have HB:=Ak (Below.refl w.heap.size w)
 have H : ((key_box.f a0_0 a0_1 a0_2 a0_3).bind fun t235 => (if t235 = true then ((key_box.f a1_0 a1_1 a1_2 a1_3).bind fun t236 => (if t236 = true then ((key_grows.f a0_0 a0_1 a0_2 a0_3 a1_0 a1_1 a1_2 a1_3).bind fun bt237 => (some (bt237.1,bt237.2.1,bt237.2.2.1,bt237.2.2.2))) else (some (0,0,0,0)))) else (some (0,0,0,0)))) = some (r1,r2,r3,r4):=h
 clear h
 replace H:=Option.bind_eq_some_iff.mp H
 obtain ⟨t235,A30,H⟩:=H
 replace H : (if t235 = true then ((key_box.f a1_0 a1_1 a1_2 a1_3).bind fun t236 => (if t236 = true then ((key_grows.f a0_0 a0_1 a0_2 a0_3 a1_0 a1_1 a1_2 a1_3).bind fun bt237 => (some (bt237.1,bt237.2.1,bt237.2.2.1,bt237.2.2.2))) else (some (0,0,0,0)))) else (some (0,0,0,0))) = some (r1,r2,r3,r4):=H
 have A3:=Ak A30
 clear A30
 by_cases c4 : t235 = true
 ·subst c4
  have H1 : ((key_box.f a1_0 a1_1 a1_2 a1_3).bind fun t236 => (if t236 = true then ((key_grows.f a0_0 a0_1 a0_2 a0_3 a1_0 a1_1 a1_2 a1_3).bind fun bt237 => (some (bt237.1,bt237.2.1,bt237.2.2.1,bt237.2.2.2))) else (some (0,0,0,0)))) = some (r1,r2,r3,r4):=by rw [if_pos rfl] at H;exact H
  clear H
  have H:=H1
  clear H1
  replace H:=Option.bind_eq_some_iff.mp H
  obtain ⟨t236,A50,H⟩:=H
  replace H : (if t236 = true then ((key_grows.f a0_0 a0_1 a0_2 a0_3 a1_0 a1_1 a1_2 a1_3).bind fun bt237 => (some (bt237.1,bt237.2.1,bt237.2.2.1,bt237.2.2.2))) else (some (0,0,0,0))) = some (r1,r2,r3,r4):=H
  have A5:=Ak A50
  clear A50
  by_cases c6 : t236 = true
  ·subst c6
   have H1 : ((key_grows.f a0_0 a0_1 a0_2 a0_3 a1_0 a1_1 a1_2 a1_3).bind fun bt237 => (some (bt237.1,bt237.2.1,bt237.2.2.1,bt237.2.2.2))) = some (r1,r2,r3,r4):=by rw [if_pos rfl] at H;exact H
   clear H
   have H:=H1
   clear H1
   replace H:=Option.bind_eq_some_iff.mp H
   obtain ⟨⟨t237,t238,t239,t240⟩,A70,H⟩:=H
   replace H : (some (t237,t238,t239,t240)) = some (r1,r2,r3,r4):=H
   have A7:=Ak A70
   clear A70
   simp only [Option.some.injEq,Prod.mk.injEq] at H
   obtain ⟨rfl,rfl,rfl,rfl⟩:=H
   go_enter Try.func36,Try.ntmps36
   try go_wp2_with (first|((with_reducible refine gate_dst (N:=2) rfl ?_);refine box_event ?hg (N:=2) ?hd (cs:=#[.int .i64 a0_0,.int .i64 a0_1,.int .i64 a0_2,.int .i64 a0_3]) (t:=35) ?hr ?_;(case hd => rfl);(case hg => rfl);(case hr => first|(go_simp;done)|(go_simp;rfl));intro gb231 hg w8 hbox hb;have n0_:=Kh HB hb;have n1_:=Ak (hbox);have n2_:=Kz hg HB;have n3_:=Kz hg HB;clear HB;have HB:=n0_;have BK231:=n1_;have GW231:=n2_;have GE231:=n3_;clear n0_ n1_ n2_ n3_;clear hb hbox hg)|((with_reducible refine gate_dst (N:=3) rfl ?_);refine box_event ?hg (N:=3) ?hd (cs:=#[.int .i64 a1_0,.int .i64 a1_1,.int .i64 a1_2,.int .i64 a1_3]) (t:=35) ?hr ?_;(case hd => rfl);(case hg => rfl);(case hr => first|(go_simp;done)|(go_simp;rfl));intro gb232 hg w9 hbox hb;have n0_:=Kb BK231 hb;have n1_:=Kh HB hb;have n2_:=Ak (hbox);have n3_:=Kz hg HB;have n4_:=Kz hg HB;have n5_:=Kl hg BK231;have n6_:=Km hg BK231;clear BK231 HB;have BK231:=n0_;have HB:=n1_;have BK232:=n2_;have GW232:=n3_;have GE232:=n4_;have NB231_232:=n5_;have NB232_231:=n6_;clear n0_ n1_ n2_ n3_ n4_ n5_ n6_;clear hb hbox hg)|((with_reducible refine gate_dst (N:=4) rfl ?_);refine box_event ?hg (N:=4) ?hd (cs:=#[.int .u64 0,.int .u64 0]) (t:=25) ?hr ?_;(case hd => rfl);(case hg => rfl);(case hr => first|(go_simp;done)|(go_simp;rfl));intro gb233 hg w10 hbox hb;have n0_:=Kb BK231 hb;have n1_:=Kb BK232 hb;have n2_:=Kh HB hb;have n3_:=Ak (hbox);have n4_:=Kz hg HB;have n5_:=Kz hg HB;have n6_:=Kl hg BK231;have n7_:=Km hg BK231;have n8_:=Kl hg BK232;have n9_:=Km hg BK232;clear BK231 BK232 HB;have BK231:=n0_;have BK232:=n1_;have HB:=n2_;have BK233:=n3_;have GW233:=n4_;have GE233:=n5_;have NB231_233:=n6_;have NB233_231:=n7_;have NB232_233:=n8_;have NB233_232:=n9_;clear n0_ n1_ n2_ n3_ n4_ n5_ n6_ n7_ n8_ n9_;clear hb hbox hg)|((with_reducible refine gate_dst (N:=5) rfl ?_);refine box_event ?hg (N:=5) ?hd (cs:=#[.int .u64 0,.int .u64 0]) (t:=25) ?hr ?_;(case hd => rfl);(case hg => rfl);(case hr => first|(go_simp;done)|(go_simp;rfl));intro gb234 hg w11 hbox hb;have n0_:=Kb BK231 hb;have n1_:=Kb BK232 hb;have n2_:=Kb BK233 hb;have n3_:=Kh HB hb;have n4_:=Ak (hbox);have n5_:=Kz hg HB;have n6_:=Kz hg HB;have n7_:=Kl hg BK231;have n8_:=Km hg BK231;have n9_:=Kl hg BK232;have n10_:=Km hg BK232;have n11_:=Kl hg BK233;have n12_:=Km hg BK233;clear BK231 BK232 BK233 HB;have BK231:=n0_;have BK232:=n1_;have BK233:=n2_;have HB:=n3_;have BK234:=n4_;have GW234:=n5_;have GE234:=n6_;have NB231_234:=n7_;have NB234_231:=n8_;have NB232_234:=n9_;have NB234_232:=n10_;have NB233_234:=n11_;have NB234_233:=n12_;clear n0_ n1_ n2_ n3_ n4_ n5_ n6_ n7_ n8_ n9_ n10_ n11_ n12_;clear hb hbox hg;have hnb12:=NB231_232.out;have hnc12:=NB232_231.out;have hnb13:=NB231_233.out;have hnc13:=NB233_231.out;have hnb14:=NB231_234.out;have hnc14:=NB234_231.out;have hcz15_0 : w11.cell? ⟨gb231,0,none⟩ = some (.int .i64 a0_0):=(kC BK231.out 0).trans rfl;have hcz15_1 : w11.cell? ⟨gb231,1,none⟩ = some (.int .i64 a0_1):=(kC BK231.out 1).trans rfl;have hcz15_2 : w11.cell? ⟨gb231,2,none⟩ = some (.int .i64 a0_2):=(kC BK231.out 2).trans rfl;have hcz15_3 : w11.cell? ⟨gb231,3,none⟩ = some (.int .i64 a0_3):=(kC BK231.out 3).trans rfl;have hfz15_0:=blk_frozen BK231.out 0;have hfz15_1:=blk_frozen BK231.out 1;have hfz15_2:=blk_frozen BK231.out 2;have hfz15_3:=blk_frozen BK231.out 3)|((with_reducible refine gate_callee (f:=57) rfl ?_);refine goesL_ (some 8) rfl rfl Try.func57 (by kernel_rfl) rfl #[.agg #[.int .i64 a0_0,.int .i64 a0_1,.int .i64 a0_2,.int .i64 a0_3]] rfl (by (try simp only [List.map_toArray,List.map_cons,List.map_nil]);first|done|rfl|(simp only [List.length_drop,List.length_take];rfl)) ?_;(with_reducible refine (key_box.calls a0_0 a0_1 a0_2 a0_3 true _ A3.out).mono ?_);rintro e w16 ⟨rfl,hb⟩;refine ⟨_,rfl,?_⟩;have n0_:=Kb BK231 hb;have n1_:=Kb BK232 hb;have n2_:=Kb BK233 hb;have n3_:=Kb BK234 hb;have n4_:=Kh HB hb;clear BK231 BK232 BK233 BK234 HB;have BK231:=n0_;have BK232:=n1_;have BK233:=n2_;have BK234:=n3_;have HB:=n4_;clear n0_ n1_ n2_ n3_ n4_;(try clear hb);(try clear hb2);(try clear hk);(try clear hi);have hnb17:=NB232_233.out;have hnc17:=NB233_232.out;have hnb18:=NB232_234.out;have hnc18:=NB234_232.out;have hcz19_0 : w16.cell? ⟨gb232,0,none⟩ = some (.int .i64 a1_0):=(kC BK232.out 0).trans rfl;have hcz19_1 : w16.cell? ⟨gb232,1,none⟩ = some (.int .i64 a1_1):=(kC BK232.out 1).trans rfl;have hcz19_2 : w16.cell? ⟨gb232,2,none⟩ = some (.int .i64 a1_2):=(kC BK232.out 2).trans rfl;have hcz19_3 : w16.cell? ⟨gb232,3,none⟩ = some (.int .i64 a1_3):=(kC BK232.out 3).trans rfl;have hfz19_0:=blk_frozen BK232.out 0;have hfz19_1:=blk_frozen BK232.out 1;have hfz19_2:=blk_frozen BK232.out 2;have hfz19_3:=blk_frozen BK232.out 3)|(go_at_call 57;(with_reducible refine (key_box.calls a1_0 a1_1 a1_2 a1_3 true _ A5.out).mono ?_);rintro e w20 ⟨rfl,hb⟩;have n0_:=Kb BK231 hb;have n1_:=Kb BK232 hb;have n2_:=Kb BK233 hb;have n3_:=Kb BK234 hb;have n4_:=Kh HB hb;clear BK231 BK232 BK233 BK234 HB;have BK231:=n0_;have BK232:=n1_;have BK233:=n2_;have BK234:=n3_;have HB:=n4_;clear n0_ n1_ n2_ n3_ n4_;(try clear hb);(try clear hb2);(try clear hk);(try clear hi);have hcz21_0 : w20.cell? ⟨gb231,0,none⟩ = some (.int .i64 a0_0):=(kC BK231.out 0).trans rfl;have hcz21_1 : w20.cell? ⟨gb231,1,none⟩ = some (.int .i64 a0_1):=(kC BK231.out 1).trans rfl;have hcz21_2 : w20.cell? ⟨gb231,2,none⟩ = some (.int .i64 a0_2):=(kC BK231.out 2).trans rfl;have hcz21_3 : w20.cell? ⟨gb231,3,none⟩ = some (.int .i64 a0_3):=(kC BK231.out 3).trans rfl;have hfz21_0:=blk_frozen BK231.out 0;have hfz21_1:=blk_frozen BK231.out 1;have hfz21_2:=blk_frozen BK231.out 2;have hfz21_3:=blk_frozen BK231.out 3;have hcz22_0 : w20.cell? ⟨gb232,0,none⟩ = some (.int .i64 a1_0):=(kC BK232.out 0).trans rfl;have hcz22_1 : w20.cell? ⟨gb232,1,none⟩ = some (.int .i64 a1_1):=(kC BK232.out 1).trans rfl;have hcz22_2 : w20.cell? ⟨gb232,2,none⟩ = some (.int .i64 a1_2):=(kC BK232.out 2).trans rfl;have hcz22_3 : w20.cell? ⟨gb232,3,none⟩ = some (.int .i64 a1_3):=(kC BK232.out 3).trans rfl;have hfz22_0:=blk_frozen BK232.out 0;have hfz22_1:=blk_frozen BK232.out 1;have hfz22_2:=blk_frozen BK232.out 2;have hfz22_3:=blk_frozen BK232.out 3)|((with_reducible refine gate_callee (f:=58) rfl ?_);refine goesL_ (some 19) rfl rfl Try.func58 (by kernel_rfl) rfl #[.agg #[.int .i64 a0_0,.int .i64 a0_1,.int .i64 a0_2,.int .i64 a0_3],.agg #[.int .i64 a1_0,.int .i64 a1_1,.int .i64 a1_2,.int .i64 a1_3]] rfl (by (try simp only [List.map_toArray,List.map_cons,List.map_nil]);first|done|rfl|(simp only [List.length_drop,List.length_take];rfl)) ?_;(with_reducible refine (key_grows.calls a0_0 a0_1 a0_2 a0_3 a1_0 a1_1 a1_2 a1_3 t237 t238 t239 t240 _ A7.out).mono ?_);rintro e w23 ⟨rfl,hb⟩;refine ⟨_,rfl,?_⟩;have n0_:=Kb BK231 hb;have n1_:=Kb BK232 hb;have n2_:=Kb BK233 hb;have n3_:=Kb BK234 hb;have n4_:=Kh HB hb;clear BK231 BK232 BK233 BK234 HB;have BK231:=n0_;have BK232:=n1_;have BK233:=n2_;have BK234:=n3_;have HB:=n4_;clear n0_ n1_ n2_ n3_ n4_;(try clear hb);(try clear hb2);(try clear hk);(try clear hi))|((with_reducible refine gate_dst (N:=6) rfl ?_);refine box_event ?hg (N:=6) ?hd (cs:=#[.int .u64 0,.int .u64 0,.int .u64 0,.int .u64 0]) (t:=79) ?hr ?_;(case hd => rfl);(case hg => rfl);(case hr => first|(go_simp;done)|(go_simp;rfl));intro gb241 hg w24 hbox hb;have n0_:=Kb BK231 hb;have n1_:=Kb BK232 hb;have n2_:=Kb BK233 hb;have n3_:=Kb BK234 hb;have n4_:=Kh HB hb;have n5_:=Ak (hbox);have n6_:=Kz hg HB;have n7_:=Kz hg HB;have n8_:=Kl hg BK231;have n9_:=Km hg BK231;have n10_:=Kl hg BK232;have n11_:=Km hg BK232;have n12_:=Kl hg BK233;have n13_:=Km hg BK233;have n14_:=Kl hg BK234;have n15_:=Km hg BK234;clear BK231 BK232 BK233 BK234 HB;have BK231:=n0_;have BK232:=n1_;have BK233:=n2_;have BK234:=n3_;have HB:=n4_;have BK241:=n5_;have GW241:=n6_;have GE241:=n7_;have NB231_241:=n8_;have NB241_231:=n9_;have NB232_241:=n10_;have NB241_232:=n11_;have NB233_241:=n12_;have NB241_233:=n13_;have NB234_241:=n14_;have NB241_234:=n15_;clear n0_ n1_ n2_ n3_ n4_ n5_ n6_ n7_ n8_ n9_ n10_ n11_ n12_ n13_ n14_ n15_;clear hb hbox hg;have hnb25:=NB241_231.out;have hnc25:=NB231_241.out;have hnb26:=NB241_232.out;have hnc26:=NB232_241.out;have hnb27:=NB241_233.out;have hnc27:=NB233_241.out;have hnb28:=NB241_234.out;have hnc28:=NB234_241.out;have hcz29_0 : w24.cell? ⟨gb241,0,none⟩ = some (.int .u64 0):=(kC BK241.out 0).trans rfl;have hcz29_1 : w24.cell? ⟨gb241,1,none⟩ = some (.int .u64 0):=(kC BK241.out 1).trans rfl;have hcz29_2 : w24.cell? ⟨gb241,2,none⟩ = some (.int .u64 0):=(kC BK241.out 2).trans rfl;have hcz29_3 : w24.cell? ⟨gb241,3,none⟩ = some (.int .u64 0):=(kC BK241.out 3).trans rfl;have hfz29_0:=blk_frozen BK241.out 0;have hfz29_1:=blk_frozen BK241.out 1;have hfz29_2:=blk_frozen BK241.out 2;have hfz29_3:=blk_frozen BK241.out 3))
   have n0_ : Aside0 (((((w24.setCell ⟨gb241,0,none⟩ (.int .u64 t237)).setCell ⟨gb241,1,none⟩ (.int .u64 t238)).setCell ⟨gb241,2,none⟩ (.int .u64 t239)).setCell ⟨gb241,3,none⟩ (.int .u64 t240)).heap[gb231]? = some (.cells #[.int .i64 a0_0,.int .i64 a0_1,.int .i64 a0_2,.int .i64 a0_3] 35 (0,0))):=⟨by (with_reducible repeat (first|refine kN ?_ _|refine kD ?_|refine kA ?_ _));refine blk_far ?_ NB231_241.out _;(with_reducible repeat (first|refine kN ?_ _|refine kD ?_|refine kA ?_ _));refine blk_far ?_ NB231_241.out _;(with_reducible repeat (first|refine kN ?_ _|refine kD ?_|refine kA ?_ _));refine blk_far ?_ NB231_241.out _;(with_reducible repeat (first|refine kN ?_ _|refine kD ?_|refine kA ?_ _));refine blk_far ?_ NB231_241.out _;(with_reducible repeat (first|refine kN ?_ _|refine kD ?_|refine kA ?_ _));exact BK231.out⟩
   have n1_ : Aside0 (((((w24.setCell ⟨gb241,0,none⟩ (.int .u64 t237)).setCell ⟨gb241,1,none⟩ (.int .u64 t238)).setCell ⟨gb241,2,none⟩ (.int .u64 t239)).setCell ⟨gb241,3,none⟩ (.int .u64 t240)).heap[gb232]? = some (.cells #[.int .i64 a1_0,.int .i64 a1_1,.int .i64 a1_2,.int .i64 a1_3] 35 (0,0))):=⟨by (with_reducible repeat (first|refine kN ?_ _|refine kD ?_|refine kA ?_ _));refine blk_far ?_ NB232_241.out _;(with_reducible repeat (first|refine kN ?_ _|refine kD ?_|refine kA ?_ _));refine blk_far ?_ NB232_241.out _;(with_reducible repeat (first|refine kN ?_ _|refine kD ?_|refine kA ?_ _));refine blk_far ?_ NB232_241.out _;(with_reducible repeat (first|refine kN ?_ _|refine kD ?_|refine kA ?_ _));refine blk_far ?_ NB232_241.out _;(with_reducible repeat (first|refine kN ?_ _|refine kD ?_|refine kA ?_ _));exact BK232.out⟩
   have n2_ : Aside0 (((((w24.setCell ⟨gb241,0,none⟩ (.int .u64 t237)).setCell ⟨gb241,1,none⟩ (.int .u64 t238)).setCell ⟨gb241,2,none⟩ (.int .u64 t239)).setCell ⟨gb241,3,none⟩ (.int .u64 t240)).heap[gb233]? = some (.cells #[.int .u64 0,.int .u64 0] 25 (0,0))):=⟨by (with_reducible repeat (first|refine kN ?_ _|refine kD ?_|refine kA ?_ _));refine blk_far ?_ NB233_241.out _;(with_reducible repeat (first|refine kN ?_ _|refine kD ?_|refine kA ?_ _));refine blk_far ?_ NB233_241.out _;(with_reducible repeat (first|refine kN ?_ _|refine kD ?_|refine kA ?_ _));refine blk_far ?_ NB233_241.out _;(with_reducible repeat (first|refine kN ?_ _|refine kD ?_|refine kA ?_ _));refine blk_far ?_ NB233_241.out _;(with_reducible repeat (first|refine kN ?_ _|refine kD ?_|refine kA ?_ _));exact BK233.out⟩
   have n3_ : Aside0 (((((w24.setCell ⟨gb241,0,none⟩ (.int .u64 t237)).setCell ⟨gb241,1,none⟩ (.int .u64 t238)).setCell ⟨gb241,2,none⟩ (.int .u64 t239)).setCell ⟨gb241,3,none⟩ (.int .u64 t240)).heap[gb234]? = some (.cells #[.int .u64 0,.int .u64 0] 25 (0,0))):=⟨by (with_reducible repeat (first|refine kN ?_ _|refine kD ?_|refine kA ?_ _));refine blk_far ?_ NB234_241.out _;(with_reducible repeat (first|refine kN ?_ _|refine kD ?_|refine kA ?_ _));refine blk_far ?_ NB234_241.out _;(with_reducible repeat (first|refine kN ?_ _|refine kD ?_|refine kA ?_ _));refine blk_far ?_ NB234_241.out _;(with_reducible repeat (first|refine kN ?_ _|refine kD ?_|refine kA ?_ _));refine blk_far ?_ NB234_241.out _;(with_reducible repeat (first|refine kN ?_ _|refine kD ?_|refine kA ?_ _));exact BK234.out⟩
   have n4_ : Aside0 (((((w24.setCell ⟨gb241,0,none⟩ (.int .u64 t237)).setCell ⟨gb241,1,none⟩ (.int .u64 t238)).setCell ⟨gb241,2,none⟩ (.int .u64 t239)).setCell ⟨gb241,3,none⟩ (.int .u64 t240)).heap[gb241]? = some (.cells #[.int .u64 t237,.int .u64 t238,.int .u64 t239,.int .u64 t240] 79 (0,0))):=⟨by (with_reducible repeat (first|refine kN ?_ _|refine kD ?_|refine kA ?_ _));refine blk_put (cs:=#[.int .u64 t237,.int .u64 t238,.int .u64 t239,.int .u64 0]) ?_ 3 _ rfl;(with_reducible repeat (first|refine kN ?_ _|refine kD ?_|refine kA ?_ _));refine blk_put (cs:=#[.int .u64 t237,.int .u64 t238,.int .u64 0,.int .u64 0]) ?_ 2 _ rfl;(with_reducible repeat (first|refine kN ?_ _|refine kD ?_|refine kA ?_ _));refine blk_put (cs:=#[.int .u64 t237,.int .u64 0,.int .u64 0,.int .u64 0]) ?_ 1 _ rfl;(with_reducible repeat (first|refine kN ?_ _|refine kD ?_|refine kA ?_ _));refine blk_put (cs:=#[.int .u64 0,.int .u64 0,.int .u64 0,.int .u64 0]) ?_ 0 _ rfl;(with_reducible repeat (first|refine kN ?_ _|refine kD ?_|refine kA ?_ _));exact BK241.out⟩
   have n5_ : Aside0 (Below w.heap.size w ((((w24.setCell ⟨gb241,0,none⟩ (.int .u64 t237)).setCell ⟨gb241,1,none⟩ (.int .u64 t238)).setCell ⟨gb241,2,none⟩ (.int .u64 t239)).setCell ⟨gb241,3,none⟩ (.int .u64 t240))):=⟨by repeat (first|(with_reducible first|exact HB.out|apply bA|apply bN|apply bD|refine bS ?_ GE231.out|refine bS ?_ GE232.out|refine bS ?_ GE233.out|refine bS ?_ GE234.out|refine bS ?_ GE241.out)|exact HB.out)⟩
   (try clear BK231)
   (try clear BK232)
   (try clear BK233)
   (try clear BK234)
   (try clear BK241)
   (try clear HB)
   generalize ((((w24.setCell ⟨gb241,0,none⟩ (.int .u64 t237)).setCell ⟨gb241,1,none⟩ (.int .u64 t238)).setCell ⟨gb241,2,none⟩ (.int .u64 t239)).setCell ⟨gb241,3,none⟩ (.int .u64 t240)) = w30 at n0_ n1_ n2_ n3_ n4_ n5_ ⊢
   have BK231:=n0_;have BK232:=n1_;have BK233:=n2_;have BK234:=n3_;have BK241:=n4_;have HB:=n5_
   clear n0_ n1_ n2_ n3_ n4_ n5_
   have n0_:=Ak (kD BK231.out)
   have n1_:=Ak (kD BK232.out)
   have n2_:=Ak (kD BK233.out)
   have n3_:=Ak (kD BK234.out)
   have n4_:=Ak (kD BK241.out)
   have n5_:=Ak (bD HB.out)
   clear BK231 BK232 BK233 BK234 BK241 HB
   have BK231:=n0_;have BK232:=n1_;have BK233:=n2_;have BK234:=n3_;have BK241:=n4_;have HB:=n5_
   clear n0_ n1_ n2_ n3_ n4_ n5_
   refine start_ (n:=6) (S:=fun w' => w'.cell? ⟨gb241,0,none⟩ = some (.int .u64 t237)∧w'.cell? ⟨gb241,1,none⟩ = some (.int .u64 t238)∧w'.cell? ⟨gb241,2,none⟩ = some (.int .u64 t239)∧w'.cell? ⟨gb241,3,none⟩ = some (.int .u64 t240)) (ds:=[]) #[ff,ff,ff,ff,ff,ff] (by kernel_rfl) rfl rfl ⟨(kC BK241.out 0).trans rfl,(kC BK241.out 1).trans rfl,(kC BK241.out 2).trans rfl,(kC BK241.out 3).trans rfl⟩ (fun hHeld => ?_)
   generalize w30.drew = w31 at BK231 BK232 BK233 BK234 BK241 HB hHeld ⊢
   refine pure_ (i:=0) (N:=some 20) (v:=?_) (a':=?_) #[tt,ff,ff,ff,ff,ff] rfl rfl (by kernel_rfl) (fun _ _ _ h => h) (Or.inl ⟨by rfl,?_⟩) ?_ ?_
   rotate_left
   ·intro w'
    go_simp
    with_reducible rfl
   rotate_left
   ·simp only [Act.put,sA,sZ,sS,i64_w,i32_w]
    rfl
   refine pure_ (i:=2) (N:=some 22) (v:=?_) (a':=?_) #[tt,ff,tt,ff,ff,ff] rfl rfl (by kernel_rfl) (fun _ _ _ h => h) (Or.inl ⟨by rfl,?_⟩) ?_ ?_
   rotate_left
   ·intro w'
    go_simp
    with_reducible rfl
   rotate_left
   ·simp only [Act.put,sA,sZ,sS,i64_w,i32_w]
    rfl
   refine take_ (i:=1) (N:=some 21) (v:=?_) (a':=?_) #[tt,tt,tt,ff,ff,ff] rfl rfl (by kernel_rfl) (fun _ _ _ h => h) (Or.inl ⟨by rfl,?_⟩) hHeld ?_ ?_
   rotate_left
   ·rintro w' ⟨s0,s1,s2,s3⟩
    go_simp
    with_reducible rfl
   rotate_left
   ·simp only [Act.put,sA,sZ,sS,i64_w,i32_w]
    rfl
   refine take_ (i:=3) (N:=some 23) (v:=?_) (a':=?_) #[tt,tt,tt,tt,ff,ff] rfl rfl (by kernel_rfl) (fun _ _ _ h => h) (Or.inl ⟨by rfl,?_⟩) hHeld ?_ ?_
   rotate_left
   ·rintro w' ⟨s0,s1,s2,s3⟩
    go_simp
    with_reducible rfl
   rotate_left
   ·simp only [Act.put,sA,sZ,sS,i64_w,i32_w]
    rfl
   refine one_ (i:=4) (N:=none) #[tt,tt,tt,tt,tt,ff] rfl rfl (by kernel_rfl) (by decide) (fun K hK => ?_)
   have hs32 : w31.cell? ⟨gb233,0,none⟩ = some (.int .u64 0):=(kC BK233.out 0).trans rfl
   have hfs32:=blk_frozen BK233.out 0
   have hns32_0:=NB231_233.out
   have hns32_1:=NB232_233.out
   have hns32_3:=NB234_233.out
   have hns32_4:=NB241_233.out
   have hms32_0:=NB233_231.out
   have hms32_1:=NB233_232.out
   have hms32_3:=NB233_234.out
   have hms32_4:=NB233_241.out
   have hs33 : w31.cell? ⟨gb233,1,none⟩ = some (.int .u64 0):=(kC BK233.out 1).trans rfl
   have hfs33:=blk_frozen BK233.out 1
   have hns33_0:=NB231_233.out
   have hns33_1:=NB232_233.out
   have hns33_3:=NB234_233.out
   have hns33_4:=NB241_233.out
   have hms33_0:=NB233_231.out
   have hms33_1:=NB233_232.out
   have hms33_3:=NB233_234.out
   have hms33_4:=NB233_241.out
   refine skip_ (w1:=?_) (by rfl) rfl ?_ ?_
   rotate_left
   ·go_simp
    rfl
   refine hK.out _ _ ⟨((cell_far (p:=⟨gb233,_,none⟩) NB241_233.out _).trans (((cell_far (p:=⟨gb233,_,none⟩) NB241_233.out _).trans (hHeld.1)))),((cell_far (p:=⟨gb233,_,none⟩) NB241_233.out _).trans (((cell_far (p:=⟨gb233,_,none⟩) NB241_233.out _).trans (hHeld.2.1)))),((cell_far (p:=⟨gb233,_,none⟩) NB241_233.out _).trans (((cell_far (p:=⟨gb233,_,none⟩) NB241_233.out _).trans (hHeld.2.2.1)))),((cell_far (p:=⟨gb233,_,none⟩) NB241_233.out _).trans (((cell_far (p:=⟨gb233,_,none⟩) NB241_233.out _).trans (hHeld.2.2.2))))⟩ (fun hHeld => ?_)
   clear hK K
   refine one_ (i:=5) (N:=none) #[tt,tt,tt,tt,tt,tt] rfl rfl (by kernel_rfl) (by decide) (fun K hK => ?_)
   have hs34 : w31.cell? ⟨gb234,0,none⟩ = some (.int .u64 0):=(kC BK234.out 0).trans rfl
   have hfs34:=blk_frozen BK234.out 0
   have hns34_0:=NB231_234.out
   have hns34_1:=NB232_234.out
   have hns34_2:=NB233_234.out
   have hns34_4:=NB241_234.out
   have hms34_0:=NB234_231.out
   have hms34_1:=NB234_232.out
   have hms34_2:=NB234_233.out
   have hms34_4:=NB234_241.out
   have hs35 : w31.cell? ⟨gb234,1,none⟩ = some (.int .u64 0):=(kC BK234.out 1).trans rfl
   have hfs35:=blk_frozen BK234.out 1
   have hns35_0:=NB231_234.out
   have hns35_1:=NB232_234.out
   have hns35_2:=NB233_234.out
   have hns35_4:=NB241_234.out
   have hms35_0:=NB234_231.out
   have hms35_1:=NB234_232.out
   have hms35_2:=NB234_233.out
   have hms35_4:=NB234_241.out
   refine skip_ (w1:=?_) (by rfl) rfl ?_ ?_
   rotate_left
   ·go_simp
    rfl
   refine hK.out _ _ ⟨((cell_far (p:=⟨gb234,_,none⟩) NB241_234.out _).trans (((cell_far (p:=⟨gb234,_,none⟩) NB241_234.out _).trans (hHeld.1)))),((cell_far (p:=⟨gb234,_,none⟩) NB241_234.out _).trans (((cell_far (p:=⟨gb234,_,none⟩) NB241_234.out _).trans (hHeld.2.1)))),((cell_far (p:=⟨gb234,_,none⟩) NB241_234.out _).trans (((cell_far (p:=⟨gb234,_,none⟩) NB241_234.out _).trans (hHeld.2.2.1)))),((cell_far (p:=⟨gb234,_,none⟩) NB241_234.out _).trans (((cell_far (p:=⟨gb234,_,none⟩) NB241_234.out _).trans (hHeld.2.2.2))))⟩ (fun hHeld => ?_)
   clear hK K
   refine done_ (by kernel_rfl) ?_
   try go_wp2
   refine bodyPost_ret (results_cc rfl _ _ gb233 gb234 25 25 #[.int .u64 t237,.int .u64 t238] #[.int .u64 t239,.int .u64 t240] (0,0) (0,0) _ _ rfl (by (with_reducible repeat (first|refine kN ?_ _|refine kD ?_|refine kA ?_ _));refine blk_far ?_ NB233_234.out _;(with_reducible repeat (first|refine kN ?_ _|refine kD ?_|refine kA ?_ _));refine blk_far ?_ NB233_234.out _;(with_reducible repeat (first|refine kN ?_ _|refine kD ?_|refine kA ?_ _));refine blk_put (cs:=#[.int .u64 t237,.int .u64 0]) ?_ 1 _ rfl;(with_reducible repeat (first|refine kN ?_ _|refine kD ?_|refine kA ?_ _));refine blk_put (cs:=#[.int .u64 0,.int .u64 0]) ?_ 0 _ rfl;(with_reducible repeat (first|refine kN ?_ _|refine kD ?_|refine kA ?_ _));exact BK233.out) Try.underlying25 rfl (by kernel_rfl) rfl (by (with_reducible repeat (first|refine kN ?_ _|refine kD ?_|refine kA ?_ _));refine blk_put (cs:=#[.int .u64 t239,.int .u64 0]) ?_ 1 _ rfl;(with_reducible repeat (first|refine kN ?_ _|refine kD ?_|refine kA ?_ _));refine blk_put (cs:=#[.int .u64 0,.int .u64 0]) ?_ 0 _ rfl;(with_reducible repeat (first|refine kN ?_ _|refine kD ?_|refine kA ?_ _));refine blk_far ?_ NB234_233.out _;(with_reducible repeat (first|refine kN ?_ _|refine kD ?_|refine kA ?_ _));refine blk_far ?_ NB234_233.out _;(with_reducible repeat (first|refine kN ?_ _|refine kD ?_|refine kA ?_ _));exact BK234.out) Try.underlying25 rfl (by kernel_rfl)) rfl ?_
   exact ⟨by first|rfl|(simp [errW_none,errW_some] <;> rfl)|(simp [*,errW_none,errW_some] <;> rfl),by repeat (first|(with_reducible first|exact HB.out|apply bA|apply bN|apply bD|refine bS ?_ GE231.out|refine bS ?_ GE232.out|refine bS ?_ GE233.out|refine bS ?_ GE234.out|refine bS ?_ GE241.out)|exact HB.out)⟩
  ·replace c6:=Bool.eq_false_iff.mpr c6
   subst c6
   have H1 : (some (0,0,0,0)) = some (r1,r2,r3,r4):=by rw [if_neg (show ¬ (false = true) by decide)] at H;exact H
   clear H
   have H:=H1
   clear H1
   simp only [Option.some.injEq,Prod.mk.injEq] at H
   obtain ⟨rfl,rfl,rfl,rfl⟩:=H
   go_enter Try.func36,Try.ntmps36
   go_wp2_with (first|((with_reducible refine gate_dst (N:=2) rfl ?_);refine box_event ?hg (N:=2) ?hd (cs:=#[.int .i64 a0_0,.int .i64 a0_1,.int .i64 a0_2,.int .i64 a0_3]) (t:=35) ?hr ?_;(case hd => rfl);(case hg => rfl);(case hr => first|(go_simp;done)|(go_simp;rfl));intro gb231 hg w36 hbox hb;have n0_:=Kh HB hb;have n1_:=Ak (hbox);have n2_:=Kz hg HB;have n3_:=Kz hg HB;clear HB;have HB:=n0_;have BK231:=n1_;have GW231:=n2_;have GE231:=n3_;clear n0_ n1_ n2_ n3_;clear hb hbox hg)|((with_reducible refine gate_dst (N:=3) rfl ?_);refine box_event ?hg (N:=3) ?hd (cs:=#[.int .i64 a1_0,.int .i64 a1_1,.int .i64 a1_2,.int .i64 a1_3]) (t:=35) ?hr ?_;(case hd => rfl);(case hg => rfl);(case hr => first|(go_simp;done)|(go_simp;rfl));intro gb232 hg w37 hbox hb;have n0_:=Kb BK231 hb;have n1_:=Kh HB hb;have n2_:=Ak (hbox);have n3_:=Kz hg HB;have n4_:=Kz hg HB;have n5_:=Kl hg BK231;have n6_:=Km hg BK231;clear BK231 HB;have BK231:=n0_;have HB:=n1_;have BK232:=n2_;have GW232:=n3_;have GE232:=n4_;have NB231_232:=n5_;have NB232_231:=n6_;clear n0_ n1_ n2_ n3_ n4_ n5_ n6_;clear hb hbox hg)|((with_reducible refine gate_dst (N:=4) rfl ?_);refine box_event ?hg (N:=4) ?hd (cs:=#[.int .u64 0,.int .u64 0]) (t:=25) ?hr ?_;(case hd => rfl);(case hg => rfl);(case hr => first|(go_simp;done)|(go_simp;rfl));intro gb233 hg w38 hbox hb;have n0_:=Kb BK231 hb;have n1_:=Kb BK232 hb;have n2_:=Kh HB hb;have n3_:=Ak (hbox);have n4_:=Kz hg HB;have n5_:=Kz hg HB;have n6_:=Kl hg BK231;have n7_:=Km hg BK231;have n8_:=Kl hg BK232;have n9_:=Km hg BK232;clear BK231 BK232 HB;have BK231:=n0_;have BK232:=n1_;have HB:=n2_;have BK233:=n3_;have GW233:=n4_;have GE233:=n5_;have NB231_233:=n6_;have NB233_231:=n7_;have NB232_233:=n8_;have NB233_232:=n9_;clear n0_ n1_ n2_ n3_ n4_ n5_ n6_ n7_ n8_ n9_;clear hb hbox hg)|((with_reducible refine gate_dst (N:=5) rfl ?_);refine box_event ?hg (N:=5) ?hd (cs:=#[.int .u64 0,.int .u64 0]) (t:=25) ?hr ?_;(case hd => rfl);(case hg => rfl);(case hr => first|(go_simp;done)|(go_simp;rfl));intro gb234 hg w39 hbox hb;have n0_:=Kb BK231 hb;have n1_:=Kb BK232 hb;have n2_:=Kb BK233 hb;have n3_:=Kh HB hb;have n4_:=Ak (hbox);have n5_:=Kz hg HB;have n6_:=Kz hg HB;have n7_:=Kl hg BK231;have n8_:=Km hg BK231;have n9_:=Kl hg BK232;have n10_:=Km hg BK232;have n11_:=Kl hg BK233;have n12_:=Km hg BK233;clear BK231 BK232 BK233 HB;have BK231:=n0_;have BK232:=n1_;have BK233:=n2_;have HB:=n3_;have BK234:=n4_;have GW234:=n5_;have GE234:=n6_;have NB231_234:=n7_;have NB234_231:=n8_;have NB232_234:=n9_;have NB234_232:=n10_;have NB233_234:=n11_;have NB234_233:=n12_;clear n0_ n1_ n2_ n3_ n4_ n5_ n6_ n7_ n8_ n9_ n10_ n11_ n12_;clear hb hbox hg;have hnb40:=NB231_232.out;have hnc40:=NB232_231.out;have hnb41:=NB231_233.out;have hnc41:=NB233_231.out;have hnb42:=NB231_234.out;have hnc42:=NB234_231.out;have hcz43_0 : w39.cell? ⟨gb231,0,none⟩ = some (.int .i64 a0_0):=(kC BK231.out 0).trans rfl;have hcz43_1 : w39.cell? ⟨gb231,1,none⟩ = some (.int .i64 a0_1):=(kC BK231.out 1).trans rfl;have hcz43_2 : w39.cell? ⟨gb231,2,none⟩ = some (.int .i64 a0_2):=(kC BK231.out 2).trans rfl;have hcz43_3 : w39.cell? ⟨gb231,3,none⟩ = some (.int .i64 a0_3):=(kC BK231.out 3).trans rfl;have hfz43_0:=blk_frozen BK231.out 0;have hfz43_1:=blk_frozen BK231.out 1;have hfz43_2:=blk_frozen BK231.out 2;have hfz43_3:=blk_frozen BK231.out 3)|((with_reducible refine gate_callee (f:=57) rfl ?_);refine goesL_ (some 8) rfl rfl Try.func57 (by kernel_rfl) rfl #[.agg #[.int .i64 a0_0,.int .i64 a0_1,.int .i64 a0_2,.int .i64 a0_3]] rfl (by (try simp only [List.map_toArray,List.map_cons,List.map_nil]);first|done|rfl|(simp only [List.length_drop,List.length_take];rfl)) ?_;(with_reducible refine (key_box.calls a0_0 a0_1 a0_2 a0_3 true _ A3.out).mono ?_);rintro e w44 ⟨rfl,hb⟩;refine ⟨_,rfl,?_⟩;have n0_:=Kb BK231 hb;have n1_:=Kb BK232 hb;have n2_:=Kb BK233 hb;have n3_:=Kb BK234 hb;have n4_:=Kh HB hb;clear BK231 BK232 BK233 BK234 HB;have BK231:=n0_;have BK232:=n1_;have BK233:=n2_;have BK234:=n3_;have HB:=n4_;clear n0_ n1_ n2_ n3_ n4_;(try clear hb);(try clear hb2);(try clear hk);(try clear hi);have hnb45:=NB232_233.out;have hnc45:=NB233_232.out;have hnb46:=NB232_234.out;have hnc46:=NB234_232.out;have hcz47_0 : w44.cell? ⟨gb232,0,none⟩ = some (.int .i64 a1_0):=(kC BK232.out 0).trans rfl;have hcz47_1 : w44.cell? ⟨gb232,1,none⟩ = some (.int .i64 a1_1):=(kC BK232.out 1).trans rfl;have hcz47_2 : w44.cell? ⟨gb232,2,none⟩ = some (.int .i64 a1_2):=(kC BK232.out 2).trans rfl;have hcz47_3 : w44.cell? ⟨gb232,3,none⟩ = some (.int .i64 a1_3):=(kC BK232.out 3).trans rfl;have hfz47_0:=blk_frozen BK232.out 0;have hfz47_1:=blk_frozen BK232.out 1;have hfz47_2:=blk_frozen BK232.out 2;have hfz47_3:=blk_frozen BK232.out 3)|(go_at_call 57;(with_reducible refine (key_box.calls a1_0 a1_1 a1_2 a1_3 false _ A5.out).mono ?_);rintro e w48 ⟨rfl,hb⟩;have n0_:=Kb BK231 hb;have n1_:=Kb BK232 hb;have n2_:=Kb BK233 hb;have n3_:=Kb BK234 hb;have n4_:=Kh HB hb;clear BK231 BK232 BK233 BK234 HB;have BK231:=n0_;have BK232:=n1_;have BK233:=n2_;have BK234:=n3_;have HB:=n4_;clear n0_ n1_ n2_ n3_ n4_;(try clear hb);(try clear hb2);(try clear hk);(try clear hi);have hnb49:=NB233_234.out;have hnc49:=NB234_233.out;have hcz50_0 : w48.cell? ⟨gb233,0,none⟩ = some (.int .u64 0):=(kC BK233.out 0).trans rfl;have hcz50_1 : w48.cell? ⟨gb233,1,none⟩ = some (.int .u64 0):=(kC BK233.out 1).trans rfl;have hfz50_0:=blk_frozen BK233.out 0;have hfz50_1:=blk_frozen BK233.out 1;have hcz51_0 : w48.cell? ⟨gb234,0,none⟩ = some (.int .u64 0):=(kC BK234.out 0).trans rfl;have hcz51_1 : w48.cell? ⟨gb234,1,none⟩ = some (.int .u64 0):=(kC BK234.out 1).trans rfl;have hfz51_0:=blk_frozen BK234.out 0;have hfz51_1:=blk_frozen BK234.out 1))
   refine bodyPost_ret (results_cc rfl _ _ gb233 gb234 25 25 #[.int .u64 0,.int .u64 0] #[.int .u64 0,.int .u64 0] (0,0) (0,0) _ _ rfl (by (with_reducible repeat (first|refine kN ?_ _|refine kD ?_|refine kA ?_ _));refine blk_far ?_ NB233_234.out _;(with_reducible repeat (first|refine kN ?_ _|refine kD ?_|refine kA ?_ _));refine blk_far ?_ NB233_234.out _;(with_reducible repeat (first|refine kN ?_ _|refine kD ?_|refine kA ?_ _));refine blk_put (cs:=#[.int .u64 0,.int .u64 0]) ?_ 1 _ rfl;(with_reducible repeat (first|refine kN ?_ _|refine kD ?_|refine kA ?_ _));refine blk_put (cs:=#[.int .u64 0,.int .u64 0]) ?_ 0 _ rfl;(with_reducible repeat (first|refine kN ?_ _|refine kD ?_|refine kA ?_ _));exact BK233.out) Try.underlying25 rfl (by kernel_rfl) rfl (by (with_reducible repeat (first|refine kN ?_ _|refine kD ?_|refine kA ?_ _));refine blk_put (cs:=#[.int .u64 0,.int .u64 0]) ?_ 1 _ rfl;(with_reducible repeat (first|refine kN ?_ _|refine kD ?_|refine kA ?_ _));refine blk_put (cs:=#[.int .u64 0,.int .u64 0]) ?_ 0 _ rfl;(with_reducible repeat (first|refine kN ?_ _|refine kD ?_|refine kA ?_ _));refine blk_far ?_ NB234_233.out _;(with_reducible repeat (first|refine kN ?_ _|refine kD ?_|refine kA ?_ _));refine blk_far ?_ NB234_233.out _;(with_reducible repeat (first|refine kN ?_ _|refine kD ?_|refine kA ?_ _));exact BK234.out) Try.underlying25 rfl (by kernel_rfl)) rfl ?_
   exact ⟨by first|rfl|(simp [errW_none,errW_some] <;> rfl)|(simp [*,errW_none,errW_some] <;> rfl),by repeat (first|(with_reducible first|exact HB.out|apply bA|apply bN|apply bD|refine bS ?_ GE231.out|refine bS ?_ GE232.out|refine bS ?_ GE233.out|refine bS ?_ GE234.out)|exact HB.out)⟩
 ·replace c4:=Bool.eq_false_iff.mpr c4
  subst c4
  have H1 : (some (0,0,0,0)) = some (r1,r2,r3,r4):=by rw [if_neg (show ¬ (false = true) by decide)] at H;exact H
  clear H
  have H:=H1
  clear H1
  simp only [Option.some.injEq,Prod.mk.injEq] at H
  obtain ⟨rfl,rfl,rfl,rfl⟩:=H
  go_enter Try.func36,Try.ntmps36
  go_wp2_with (first|((with_reducible refine gate_dst (N:=2) rfl ?_);refine box_event ?hg (N:=2) ?hd (cs:=#[.int .i64 a0_0,.int .i64 a0_1,.int .i64 a0_2,.int .i64 a0_3]) (t:=35) ?hr ?_;(case hd => rfl);(case hg => rfl);(case hr => first|(go_simp;done)|(go_simp;rfl));intro gb231 hg w52 hbox hb;have n0_:=Kh HB hb;have n1_:=Ak (hbox);have n2_:=Kz hg HB;have n3_:=Kz hg HB;clear HB;have HB:=n0_;have BK231:=n1_;have GW231:=n2_;have GE231:=n3_;clear n0_ n1_ n2_ n3_;clear hb hbox hg)|((with_reducible refine gate_dst (N:=3) rfl ?_);refine box_event ?hg (N:=3) ?hd (cs:=#[.int .i64 a1_0,.int .i64 a1_1,.int .i64 a1_2,.int .i64 a1_3]) (t:=35) ?hr ?_;(case hd => rfl);(case hg => rfl);(case hr => first|(go_simp;done)|(go_simp;rfl));intro gb232 hg w53 hbox hb;have n0_:=Kb BK231 hb;have n1_:=Kh HB hb;have n2_:=Ak (hbox);have n3_:=Kz hg HB;have n4_:=Kz hg HB;have n5_:=Kl hg BK231;have n6_:=Km hg BK231;clear BK231 HB;have BK231:=n0_;have HB:=n1_;have BK232:=n2_;have GW232:=n3_;have GE232:=n4_;have NB231_232:=n5_;have NB232_231:=n6_;clear n0_ n1_ n2_ n3_ n4_ n5_ n6_;clear hb hbox hg)|((with_reducible refine gate_dst (N:=4) rfl ?_);refine box_event ?hg (N:=4) ?hd (cs:=#[.int .u64 0,.int .u64 0]) (t:=25) ?hr ?_;(case hd => rfl);(case hg => rfl);(case hr => first|(go_simp;done)|(go_simp;rfl));intro gb233 hg w54 hbox hb;have n0_:=Kb BK231 hb;have n1_:=Kb BK232 hb;have n2_:=Kh HB hb;have n3_:=Ak (hbox);have n4_:=Kz hg HB;have n5_:=Kz hg HB;have n6_:=Kl hg BK231;have n7_:=Km hg BK231;have n8_:=Kl hg BK232;have n9_:=Km hg BK232;clear BK231 BK232 HB;have BK231:=n0_;have BK232:=n1_;have HB:=n2_;have BK233:=n3_;have GW233:=n4_;have GE233:=n5_;have NB231_233:=n6_;have NB233_231:=n7_;have NB232_233:=n8_;have NB233_232:=n9_;clear n0_ n1_ n2_ n3_ n4_ n5_ n6_ n7_ n8_ n9_;clear hb hbox hg)|((with_reducible refine gate_dst (N:=5) rfl ?_);refine box_event ?hg (N:=5) ?hd (cs:=#[.int .u64 0,.int .u64 0]) (t:=25) ?hr ?_;(case hd => rfl);(case hg => rfl);(case hr => first|(go_simp;done)|(go_simp;rfl));intro gb234 hg w55 hbox hb;have n0_:=Kb BK231 hb;have n1_:=Kb BK232 hb;have n2_:=Kb BK233 hb;have n3_:=Kh HB hb;have n4_:=Ak (hbox);have n5_:=Kz hg HB;have n6_:=Kz hg HB;have n7_:=Kl hg BK231;have n8_:=Km hg BK231;have n9_:=Kl hg BK232;have n10_:=Km hg BK232;have n11_:=Kl hg BK233;have n12_:=Km hg BK233;clear BK231 BK232 BK233 HB;have BK231:=n0_;have BK232:=n1_;have BK233:=n2_;have HB:=n3_;have BK234:=n4_;have GW234:=n5_;have GE234:=n6_;have NB231_234:=n7_;have NB234_231:=n8_;have NB232_234:=n9_;have NB234_232:=n10_;have NB233_234:=n11_;have NB234_233:=n12_;clear n0_ n1_ n2_ n3_ n4_ n5_ n6_ n7_ n8_ n9_ n10_ n11_ n12_;clear hb hbox hg;have hnb56:=NB231_232.out;have hnc56:=NB232_231.out;have hnb57:=NB231_233.out;have hnc57:=NB233_231.out;have hnb58:=NB231_234.out;have hnc58:=NB234_231.out;have hcz59_0 : w55.cell? ⟨gb231,0,none⟩ = some (.int .i64 a0_0):=(kC BK231.out 0).trans rfl;have hcz59_1 : w55.cell? ⟨gb231,1,none⟩ = some (.int .i64 a0_1):=(kC BK231.out 1).trans rfl;have hcz59_2 : w55.cell? ⟨gb231,2,none⟩ = some (.int .i64 a0_2):=(kC BK231.out 2).trans rfl;have hcz59_3 : w55.cell? ⟨gb231,3,none⟩ = some (.int .i64 a0_3):=(kC BK231.out 3).trans rfl;have hfz59_0:=blk_frozen BK231.out 0;have hfz59_1:=blk_frozen BK231.out 1;have hfz59_2:=blk_frozen BK231.out 2;have hfz59_3:=blk_frozen BK231.out 3)|((with_reducible refine gate_callee (f:=57) rfl ?_);refine goesL_ (some 8) rfl rfl Try.func57 (by kernel_rfl) rfl #[.agg #[.int .i64 a0_0,.int .i64 a0_1,.int .i64 a0_2,.int .i64 a0_3]] rfl (by (try simp only [List.map_toArray,List.map_cons,List.map_nil]);first|done|rfl|(simp only [List.length_drop,List.length_take];rfl)) ?_;(with_reducible refine (key_box.calls a0_0 a0_1 a0_2 a0_3 false _ A3.out).mono ?_);rintro e w60 ⟨rfl,hb⟩;refine ⟨_,rfl,?_⟩;have n0_:=Kb BK231 hb;have n1_:=Kb BK232 hb;have n2_:=Kb BK233 hb;have n3_:=Kb BK234 hb;have n4_:=Kh HB hb;clear BK231 BK232 BK233 BK234 HB;have BK231:=n0_;have BK232:=n1_;have BK233:=n2_;have BK234:=n3_;have HB:=n4_;clear n0_ n1_ n2_ n3_ n4_;(try clear hb);(try clear hb2);(try clear hk);(try clear hi);have hnb61:=NB233_232.out;have hnc61:=NB232_233.out;have hnb62:=NB233_234.out;have hnc62:=NB234_233.out;have hcz63_0 : w60.cell? ⟨gb233,0,none⟩ = some (.int .u64 0):=(kC BK233.out 0).trans rfl;have hcz63_1 : w60.cell? ⟨gb233,1,none⟩ = some (.int .u64 0):=(kC BK233.out 1).trans rfl;have hfz63_0:=blk_frozen BK233.out 0;have hfz63_1:=blk_frozen BK233.out 1;have hnb64:=NB234_232.out;have hnc64:=NB232_234.out;have hcz65_0 : w60.cell? ⟨gb234,0,none⟩ = some (.int .u64 0):=(kC BK234.out 0).trans rfl;have hcz65_1 : w60.cell? ⟨gb234,1,none⟩ = some (.int .u64 0):=(kC BK234.out 1).trans rfl;have hfz65_0:=blk_frozen BK234.out 0;have hfz65_1:=blk_frozen BK234.out 1))
  refine bodyPost_ret (results_cc rfl _ _ gb233 gb234 25 25 #[.int .u64 0,.int .u64 0] #[.int .u64 0,.int .u64 0] (0,0) (0,0) _ _ rfl (by (with_reducible repeat (first|refine kN ?_ _|refine kD ?_|refine kA ?_ _));refine blk_far ?_ NB233_234.out _;(with_reducible repeat (first|refine kN ?_ _|refine kD ?_|refine kA ?_ _));refine blk_far ?_ NB233_234.out _;(with_reducible repeat (first|refine kN ?_ _|refine kD ?_|refine kA ?_ _));refine blk_put (cs:=#[.int .u64 0,.int .u64 0]) ?_ 1 _ rfl;(with_reducible repeat (first|refine kN ?_ _|refine kD ?_|refine kA ?_ _));refine blk_put (cs:=#[.int .u64 0,.int .u64 0]) ?_ 0 _ rfl;(with_reducible repeat (first|refine kN ?_ _|refine kD ?_|refine kA ?_ _));exact BK233.out) Try.underlying25 rfl (by kernel_rfl) rfl (by (with_reducible repeat (first|refine kN ?_ _|refine kD ?_|refine kA ?_ _));refine blk_put (cs:=#[.int .u64 0,.int .u64 0]) ?_ 1 _ rfl;(with_reducible repeat (first|refine kN ?_ _|refine kD ?_|refine kA ?_ _));refine blk_put (cs:=#[.int .u64 0,.int .u64 0]) ?_ 0 _ rfl;(with_reducible repeat (first|refine kN ?_ _|refine kD ?_|refine kA ?_ _));refine blk_far ?_ NB234_233.out _;(with_reducible repeat (first|refine kN ?_ _|refine kD ?_|refine kA ?_ _));refine blk_far ?_ NB234_233.out _;(with_reducible repeat (first|refine kN ?_ _|refine kD ?_|refine kA ?_ _));exact BK234.out) Try.underlying25 rfl (by kernel_rfl)) rfl ?_
  exact ⟨by first|rfl|(simp [errW_none,errW_some] <;> rfl)|(simp [*,errW_none,errW_some] <;> rfl),by repeat (first|(with_reducible first|exact HB.out|apply bA|apply bN|apply bD|refine bS ?_ GE231.out|refine bS ?_ GE232.out|refine bS ?_ GE233.out|refine bS ?_ GE234.out)|exact HB.out)⟩
end Go.Proofs.Ythlhmijgbjcloaa.A
end
section
namespace Go.Proofs.Ythlhmijgbjcloaa.A
open Go.RowKit Go.Proofs.YthlhmijgbjcloaaW.PrintWords Go.Proofs.YthlhmijgbjcloaaW.PrintLast Go.Proofs.YthlhmijgbjcloaaW.PrintMore
attribute [local go_sem] max2_int min2_int max_two min_two max_three min_three max_four min_four   -- for this text's walks alone
def gazetteerref07_Area.f (a0_0 : Int) (a0_1 : Int) (a0_2 : Int) (a0_3 : Int) : Option (Int × Int):=areaF a0_0 a0_1 a0_2 a0_3
theorem gazetteerref07_Area.calls (a0_0 : Int) (a0_1 : Int) (a0_2 : Int) (a0_3 : Int) (r1 : Int) (r2 : Int) (w : World) (h : gazetteerref07_Area.f a0_0 a0_1 a0_2 a0_3 = some (r1,r2)) :
  Calls Try.prog 25 #[.agg #[.int .i64 a0_0,.int .i64 a0_1,.int .i64 a0_2,.int .i64 a0_3]] w fun e w' => e = .returned (.agg #[.int .u64 r1,.int .u64 r2])∧Below w.heap.size w w':=by
 unfold gazetteerref07_Area.f areaF at h
 split at h
 ·rename_i hk
  simp only [Bool.and_eq_true] at hk
  obtain ⟨⟨⟨g0,g1⟩,g2⟩,g3⟩:=hk
  injection h with h
  injection h with h1 h2
  subst h1
  subst h2
  exact refarea_any a0_0 a0_1 a0_2 a0_3 w (isI_of g0) (isI_of g1) (isI_of g2) (isI_of g3)
 ·cases h
end Go.Proofs.Ythlhmijgbjcloaa.A
end
section
namespace Go.Proofs.Ythlhmijgbjcloaa.A
open Go.RowKit Go.Proofs.YthlhmijgbjcloaaW.PrintWords Go.Proofs.YthlhmijgbjcloaaW.PrintLast Go.Proofs.YthlhmijgbjcloaaW.PrintMore
attribute [local go_sem] max2_int min2_int max_two min_two max_three min_three max_four min_four   -- for this text's walks alone
def gazetteerref07_Margin.f (a0_0 : Int) (a0_1 : Int) (a0_2 : Int) (a0_3 : Int) : Option (Int × Int):=marginF a0_0 a0_1 a0_2 a0_3
theorem gazetteerref07_Margin.calls (a0_0 : Int) (a0_1 : Int) (a0_2 : Int) (a0_3 : Int) (r1 : Int) (r2 : Int) (w : World) (h : gazetteerref07_Margin.f a0_0 a0_1 a0_2 a0_3 = some (r1,r2)) :
  Calls Try.prog 27 #[.agg #[.int .i64 a0_0,.int .i64 a0_1,.int .i64 a0_2,.int .i64 a0_3]] w fun e w' => e = .returned (.agg #[.int .u64 r1,.int .u64 r2])∧Below w.heap.size w w':=by
 unfold gazetteerref07_Margin.f marginF at h
 split at h
 ·rename_i hk
  simp only [Bool.and_eq_true] at hk
  obtain ⟨⟨⟨g0,g1⟩,g2⟩,g3⟩:=hk
  injection h with h
  injection h with h1 h2
  subst h1
  subst h2
  exact refmargin_any a0_0 a0_1 a0_2 a0_3 w (isI_of g0) (isI_of g1) (isI_of g2) (isI_of g3)
 ·cases h
end Go.Proofs.Ythlhmijgbjcloaa.A
end
section
namespace Go.Proofs.Ythlhmijgbjcloaa.A
open Go.RowKit Go.Proofs.YthlhmijgbjcloaaW.PrintWords Go.Proofs.YthlhmijgbjcloaaW.PrintLast Go.Proofs.YthlhmijgbjcloaaW.PrintMore
attribute [local go_sem] max2_int min2_int max_two min_two max_three min_three max_four min_four   -- for this text's walks alone
def gazetteerref07_Sub.f (a0_0 : Int) (a0_1 : Int) (a1_0 : Int) (a1_1 : Int) : Option (Int × Int × Bool):=subF a0_0 a0_1 a1_0 a1_1
theorem gazetteerref07_Sub.calls (a0_0 : Int) (a0_1 : Int) (a1_0 : Int) (a1_1 : Int) (r1 : Int) (r2 : Int) (r3 : Bool) (w : World) (h : gazetteerref07_Sub.f a0_0 a0_1 a1_0 a1_1 = some (r1,r2,r3)) :
  Calls Try.prog 30 #[.agg #[.int .u64 a0_0,.int .u64 a0_1],.agg #[.int .u64 a1_0,.int .u64 a1_1]] w fun e w' => e = .returned (.tuple #[.agg #[.int .u64 r1,.int .u64 r2],.bool r3])∧Below w.heap.size w w':=by
 unfold gazetteerref07_Sub.f subF at h
 split at h
 ·rename_i hk
  simp only [Bool.and_eq_true] at hk
  obtain ⟨⟨⟨g0,g1⟩,g2⟩,g3⟩:=hk
  injection h with h
  injection h with h1 h
  injection h with h2 h3
  subst h1
  subst h2
  subst h3
  obtain ⟨m1,m2,m3⟩:=num_hl (isU_of g0) (isU_of g1)
  obtain ⟨n1,n2,n3⟩:=num_hl (isU_of g2) (isU_of g3)
  obtain ⟨x,hx⟩:=Int.eq_ofNat_of_zero_le m1.1
  obtain ⟨y,hy⟩:=Int.eq_ofNat_of_zero_le n1.1
  have:=refsub_n x y (by have:=m1.2;omega) (by have:=n1.2;omega) w
  rw [← hx,← hy] at this
  unfold wd at this
  rw [m2,m3,n2,n3] at this
  exact this
 ·cases h
end Go.Proofs.Ythlhmijgbjcloaa.A
end
section
namespace Go.Proofs.Ythlhmijgbjcloaa.A
open Go.RowKit Go.Proofs.YthlhmijgbjcloaaW.PrintWords Go.Proofs.YthlhmijgbjcloaaW.PrintLast Go.Proofs.YthlhmijgbjcloaaW.PrintMore
attribute [local go_sem] max2_int min2_int max_two min_two max_three min_three max_four min_four   -- for this text's walks alone
def gazetteerref09_Box.f (a0_0 : Int) (a0_1 : Int) (a0_2 : Int) (a0_3 : Int) : Option (Bool) := if a0_0 ≤ a0_1 then (some (decide (a0_2 ≤ a0_3))) else (some false)
set_option maxHeartbeats 8000000 in
set_option maxRecDepth 100000 in
theorem gazetteerref09_Box.calls (a0_0 : Int) (a0_1 : Int) (a0_2 : Int) (a0_3 : Int) (r : Bool) (w : World) (h : gazetteerref09_Box.f a0_0 a0_1 a0_2 a0_3 = some r) :
  Calls Try.prog 59 #[.agg #[.int .i64 a0_0,.int .i64 a0_1,.int .i64 a0_2,.int .i64 a0_3]] w fun e w' => e = .returned (.bool r)∧Below w.heap.size w w':=by
 have hu35:=Try.underlying35
 have HB:=Ak (Below.refl w.heap.size w)
 have H : (if a0_0 ≤ a0_1 then (some (decide (a0_2 ≤ a0_3))) else (some false)) = some r:=h
 clear h
 by_cases c2 : a0_0 ≤ a0_1
 ·rw [if_pos c2] at H
  have c2b0 : decide (a0_0 ≤ a0_1) = true:=decide_eq_true c2
  clear c2
  obtain rfl:=Option.some.inj H
  go_enter Try.func59,Try.ntmps59
  go_wp2_with (first|((with_reducible refine gate_dst (N:=1) rfl ?_);refine box_event ?hg (N:=1) ?hd (cs:=#[.int .i64 a0_0,.int .i64 a0_1,.int .i64 a0_2,.int .i64 a0_3]) (t:=35) ?hr ?_;(case hd => rfl);(case hg => rfl);(case hr => first|(go_simp;done)|(go_simp;rfl));intro gb246 hg w3 hbox hb;have n0_:=Kh HB hb;have n1_:=Ak (hbox);have n2_:=Kz hg HB;have n3_:=Kz hg HB;clear HB;have HB:=n0_;have BK246:=n1_;have GW246:=n2_;have GE246:=n3_;clear n0_ n1_ n2_ n3_;clear hb hbox hg;have hcz4_0 : w3.cell? ⟨gb246,0,none⟩ = some (.int .i64 a0_0):=(kC BK246.out 0).trans rfl;have hcz4_1 : w3.cell? ⟨gb246,1,none⟩ = some (.int .i64 a0_1):=(kC BK246.out 1).trans rfl;have hcz4_2 : w3.cell? ⟨gb246,2,none⟩ = some (.int .i64 a0_2):=(kC BK246.out 2).trans rfl;have hcz4_3 : w3.cell? ⟨gb246,3,none⟩ = some (.int .i64 a0_3):=(kC BK246.out 3).trans rfl;have hfz4_0:=blk_frozen BK246.out 0;have hfz4_1:=blk_frozen BK246.out 1;have hfz4_2:=blk_frozen BK246.out 2;have hfz4_3:=blk_frozen BK246.out 3))
  go_ret
  exact ⟨by first|rfl|(simp [errW_none,errW_some] <;> rfl)|(simp [*,errW_none,errW_some] <;> rfl),by repeat (first|(with_reducible first|exact HB.out|apply bA|apply bN|apply bD|refine bS ?_ GE246.out)|exact HB.out)⟩
 ·rw [if_neg c2] at H
  have c2b0 : decide (a0_0 ≤ a0_1) = false:=decide_eq_false c2
  clear c2
  obtain rfl:=Option.some.inj H
  go_enter Try.func59,Try.ntmps59
  go_wp2_with (first|((with_reducible refine gate_dst (N:=1) rfl ?_);refine box_event ?hg (N:=1) ?hd (cs:=#[.int .i64 a0_0,.int .i64 a0_1,.int .i64 a0_2,.int .i64 a0_3]) (t:=35) ?hr ?_;(case hd => rfl);(case hg => rfl);(case hr => first|(go_simp;done)|(go_simp;rfl));intro gb246 hg w5 hbox hb;have n0_:=Kh HB hb;have n1_:=Ak (hbox);have n2_:=Kz hg HB;have n3_:=Kz hg HB;clear HB;have HB:=n0_;have BK246:=n1_;have GW246:=n2_;have GE246:=n3_;clear n0_ n1_ n2_ n3_;clear hb hbox hg;have hcz6_0 : w5.cell? ⟨gb246,0,none⟩ = some (.int .i64 a0_0):=(kC BK246.out 0).trans rfl;have hcz6_1 : w5.cell? ⟨gb246,1,none⟩ = some (.int .i64 a0_1):=(kC BK246.out 1).trans rfl;have hcz6_2 : w5.cell? ⟨gb246,2,none⟩ = some (.int .i64 a0_2):=(kC BK246.out 2).trans rfl;have hcz6_3 : w5.cell? ⟨gb246,3,none⟩ = some (.int .i64 a0_3):=(kC BK246.out 3).trans rfl;have hfz6_0:=blk_frozen BK246.out 0;have hfz6_1:=blk_frozen BK246.out 1;have hfz6_2:=blk_frozen BK246.out 2;have hfz6_3:=blk_frozen BK246.out 3))
  go_ret
  exact ⟨by first|rfl|(simp [errW_none,errW_some] <;> rfl)|(simp [*,errW_none,errW_some] <;> rfl),by repeat (first|(with_reducible first|exact HB.out|apply bA|apply bN|apply bD|refine bS ?_ GE246.out)|exact HB.out)⟩
mutual
def gazetteerref09_Union.j0 : Nat → Bool → Int → Int → Int → Int → Int → Int → Int → Int → Option (Int × Int × Int × Int)
  | 0, _, _, _, _, _, _, _, _, _ => none
  | k + 1, x12, x248000, x248001, x248002, x248003, x249000, x249001, x249002, x249003 => if x12 = true then (some (0, 0, 0, 0)) else (if x249000 < x248000 then (gazetteerref09_Union.j1 k x249000 x248001 x248002 x248003 x249000 x249001 x249002 x249003) else (gazetteerref09_Union.j1 k x248000 x248001 x248002 x248003 x249000 x249001 x249002 x249003))
def gazetteerref09_Union.j1 : Nat → Int → Int → Int → Int → Int → Int → Int → Int → Option (Int × Int × Int × Int)
  | 0, _, _, _, _, _, _, _, _ => none
  | k + 1, x248000, x248001, x248002, x248003, x249000, x249001, x249002, x249003 => if x249001 > x248001 then (gazetteerref09_Union.j2 k x248000 x249001 x248002 x248003 x249000 x249001 x249002 x249003) else (gazetteerref09_Union.j2 k x248000 x248001 x248002 x248003 x249000 x249001 x249002 x249003)
def gazetteerref09_Union.j2 : Nat → Int → Int → Int → Int → Int → Int → Int → Int → Option (Int × Int × Int × Int)
  | 0, _, _, _, _, _, _, _, _ => none
  | k + 1, x248000, x248001, x248002, x248003, x249000, x249001, x249002, x249003 => if x249002 < x248002 then (if x249003 > x248003 then (some (x248000, x248001, x249002, x249003)) else (some (x248000, x248001, x249002, x248003))) else (if x249003 > x248003 then (some (x248000, x248001, x248002, x249003)) else (some (x248000, x248001, x248002, x248003)))
end
def gazetteerref09_Union.f (k : Nat) (a0_0 : Int) (a0_1 : Int) (a0_2 : Int) (a0_3 : Int) (a1_0 : Int) (a1_1 : Int) (a1_2 : Int) (a1_3 : Int) : Option (Int × Int × Int × Int) := (gazetteerref09_Box.f a0_0 a0_1 a0_2 a0_3).bind fun t250 => (if t250 = true then ((gazetteerref09_Box.f a1_0 a1_1 a1_2 a1_3).bind fun t251 => (gazetteerref09_Union.j0 k (!t251) a0_0 a0_1 a0_2 a0_3 a1_0 a1_1 a1_2 a1_3)) else (gazetteerref09_Union.j0 k true a0_0 a0_1 a0_2 a0_3 a1_0 a1_1 a1_2 a1_3))
set_option maxHeartbeats 8000000 in
set_option maxRecDepth 100000 in
theorem gazetteerref09_Union.calls (k : Nat) (a0_0 : Int) (a0_1 : Int) (a0_2 : Int) (a0_3 : Int) (a1_0 : Int) (a1_1 : Int) (a1_2 : Int) (a1_3 : Int) (r1 : Int) (r2 : Int) (r3 : Int) (r4 : Int) (w : World) (h : gazetteerref09_Union.f k a0_0 a0_1 a0_2 a0_3 a1_0 a1_1 a1_2 a1_3 = some (r1,r2,r3,r4)) :
  Calls Try.prog 46 #[.agg #[.int .i64 a0_0,.int .i64 a0_1,.int .i64 a0_2,.int .i64 a0_3],.agg #[.int .i64 a1_0,.int .i64 a1_1,.int .i64 a1_2,.int .i64 a1_3]] w fun e w' => e = .returned (.agg #[.int .i64 r1,.int .i64 r2,.int .i64 r3,.int .i64 r4])∧Below w.heap.size w w':=by
 have hu35:=Try.underlying35
 have HB:=Ak (Below.refl w.heap.size w)
 have H : ((gazetteerref09_Box.f a0_0 a0_1 a0_2 a0_3).bind fun t250 => (if t250 = true then ((gazetteerref09_Box.f a1_0 a1_1 a1_2 a1_3).bind fun t251 => (gazetteerref09_Union.j0 k (!t251) a0_0 a0_1 a0_2 a0_3 a1_0 a1_1 a1_2 a1_3)) else (gazetteerref09_Union.j0 k true a0_0 a0_1 a0_2 a0_3 a1_0 a1_1 a1_2 a1_3))) = some (r1,r2,r3,r4):=h
 clear h
 have HC3:=Ak H
 clear H
 go_enter Try.func46,Try.ntmps46
 go_upto_region 1 with (first|((with_reducible refine gate_dst (N:=2) rfl ?_);refine box_event ?hg (N:=2) ?hd (cs:=#[.int .i64 a0_0,.int .i64 a0_1,.int .i64 a0_2,.int .i64 a0_3]) (t:=35) ?hr ?_;(case hd => rfl);(case hg => rfl);(case hr => first|(go_simp;done)|(go_simp;rfl));intro gb247 hg w4 hbox hb;have n0_:=Kh HB hb;have n1_:=Ak (hbox);have n2_:=Kz hg HB;have n3_:=Kz hg HB;clear HB;have HB:=n0_;have BK247:=n1_;have GW247:=n2_;have GE247:=n3_;clear n0_ n1_ n2_ n3_;clear hb hbox hg)|((with_reducible refine gate_dst (N:=3) rfl ?_);refine box_event ?hg (N:=3) ?hd (cs:=#[.int .i64 a1_0,.int .i64 a1_1,.int .i64 a1_2,.int .i64 a1_3]) (t:=35) ?hr ?_;(case hd => rfl);(case hg => rfl);(case hr => first|(go_simp;done)|(go_simp;rfl));intro gb248 hg w5 hbox hb;have n0_:=Kb BK247 hb;have n1_:=Kh HB hb;have n2_:=Ak (hbox);have n3_:=Kz hg HB;have n4_:=Kz hg HB;have n5_:=Kl hg BK247;have n6_:=Km hg BK247;clear BK247 HB;have BK247:=n0_;have HB:=n1_;have BK248:=n2_;have GW248:=n3_;have GE248:=n4_;have NB247_248:=n5_;have NB248_247:=n6_;clear n0_ n1_ n2_ n3_ n4_ n5_ n6_;clear hb hbox hg)|((with_reducible refine gate_dst (N:=4) rfl ?_);refine box_event ?hg (N:=4) ?hd (cs:=#[.int .i64 0,.int .i64 0,.int .i64 0,.int .i64 0]) (t:=35) ?hr ?_;(case hd => rfl);(case hg => rfl);(case hr => first|(go_simp;done)|(go_simp;rfl));intro gb249 hg w6 hbox hb;have n0_:=Kb BK247 hb;have n1_:=Kb BK248 hb;have n2_:=Kh HB hb;have n3_:=Ak (hbox);have n4_:=Kz hg HB;have n5_:=Kz hg HB;have n6_:=Kl hg BK247;have n7_:=Km hg BK247;have n8_:=Kl hg BK248;have n9_:=Km hg BK248;clear BK247 BK248 HB;have BK247:=n0_;have BK248:=n1_;have HB:=n2_;have BK249:=n3_;have GW249:=n4_;have GE249:=n5_;have NB247_249:=n6_;have NB249_247:=n7_;have NB248_249:=n8_;have NB249_248:=n9_;clear n0_ n1_ n2_ n3_ n4_ n5_ n6_ n7_ n8_ n9_;clear hb hbox hg))
 (try simp only [Act.put,sA,sZ,sS])
 go_cut [12] (fun v12 wc => ∃ (kq : Nat) (x12_2 : Bool),v12 = .bool x12_2∧Aside0 (gazetteerref09_Union.j0 kq x12_2 a0_0 a0_1 a0_2 a0_3 a1_0 a1_1 a1_2 a1_3 = some (r1,r2,r3,r4))∧Aside0 (kq ≤ k)∧Aside0 (wc.heap[gb247]? = some (.cells #[.int .i64 a0_0,.int .i64 a0_1,.int .i64 a0_2,.int .i64 a0_3] 35 (0,0)))∧Aside0 (wc.heap[gb248]? = some (.cells #[.int .i64 a1_0,.int .i64 a1_1,.int .i64 a1_2,.int .i64 a1_3] 35 (0,0)))∧Aside0 (wc.heap[gb249]? = some (.cells #[.int .i64 0,.int .i64 0,.int .i64 0,.int .i64 0] 35 (0,0)))∧Aside0 (Below w.heap.size w wc))
 case first =>
  have H:=HC3.out
  clear HC3
  replace H:=Option.bind_eq_some_iff.mp H
  obtain ⟨t250,A70,H⟩:=H
  replace H : (if t250 = true then ((gazetteerref09_Box.f a1_0 a1_1 a1_2 a1_3).bind fun t251 => (gazetteerref09_Union.j0 k (!t251) a0_0 a0_1 a0_2 a0_3 a1_0 a1_1 a1_2 a1_3)) else (gazetteerref09_Union.j0 k true a0_0 a0_1 a0_2 a0_3 a1_0 a1_1 a1_2 a1_3)) = some (r1,r2,r3,r4):=H
  have A7:=Ak A70
  clear A70
  by_cases c8 : t250 = true
  ·subst c8
   have H1 : ((gazetteerref09_Box.f a1_0 a1_1 a1_2 a1_3).bind fun t251 => (gazetteerref09_Union.j0 k (!t251) a0_0 a0_1 a0_2 a0_3 a1_0 a1_1 a1_2 a1_3)) = some (r1,r2,r3,r4):=by rw [if_pos rfl] at H;exact H
   clear H
   have H:=H1
   clear H1
   replace H:=Option.bind_eq_some_iff.mp H
   obtain ⟨t251,A90,H⟩:=H
   replace H : (gazetteerref09_Union.j0 k (!t251) a0_0 a0_1 a0_2 a0_3 a1_0 a1_1 a1_2 a1_3) = some (r1,r2,r3,r4):=H
   have A9:=Ak A90
   clear A90
   have H':=Ak H
   clear H
   have hnb10:=NB247_248.out
   have hnc10:=NB248_247.out
   have hnb11:=NB247_249.out
   have hnc11:=NB249_247.out
   have hcz12_0 : w6.cell? ⟨gb247,0,none⟩ = some (.int .i64 a0_0):=(kC BK247.out 0).trans rfl
   have hcz12_1 : w6.cell? ⟨gb247,1,none⟩ = some (.int .i64 a0_1):=(kC BK247.out 1).trans rfl
   have hcz12_2 : w6.cell? ⟨gb247,2,none⟩ = some (.int .i64 a0_2):=(kC BK247.out 2).trans rfl
   have hcz12_3 : w6.cell? ⟨gb247,3,none⟩ = some (.int .i64 a0_3):=(kC BK247.out 3).trans rfl
   have hfz12_0:=blk_frozen BK247.out 0
   have hfz12_1:=blk_frozen BK247.out 1
   have hfz12_2:=blk_frozen BK247.out 2
   have hfz12_3:=blk_frozen BK247.out 3
   go_wp2_with (first|((with_reducible refine gate_callee (f:=59) rfl ?_);refine goesL_ (some 6) rfl rfl Try.func59 (by kernel_rfl) rfl #[.agg #[.int .i64 a0_0,.int .i64 a0_1,.int .i64 a0_2,.int .i64 a0_3]] rfl (by (try simp only [List.map_toArray,List.map_cons,List.map_nil]);first|done|rfl|(simp only [List.length_drop,List.length_take];rfl)) ?_;(with_reducible refine (gazetteerref09_Box.calls a0_0 a0_1 a0_2 a0_3 true _ A7.out).mono ?_);rintro e w13 ⟨rfl,hb⟩;refine ⟨_,rfl,?_⟩;have n0_:=Kb BK247 hb;have n1_:=Kb BK248 hb;have n2_:=Kb BK249 hb;have n3_:=Kh HB hb;clear BK247 BK248 BK249 HB;have BK247:=n0_;have BK248:=n1_;have BK249:=n2_;have HB:=n3_;clear n0_ n1_ n2_ n3_;(try clear hb);(try clear hb2);(try clear hk);(try clear hi);have hnb14:=NB248_249.out;have hnc14:=NB249_248.out;have hcz15_0 : w13.cell? ⟨gb248,0,none⟩ = some (.int .i64 a1_0):=(kC BK248.out 0).trans rfl;have hcz15_1 : w13.cell? ⟨gb248,1,none⟩ = some (.int .i64 a1_1):=(kC BK248.out 1).trans rfl;have hcz15_2 : w13.cell? ⟨gb248,2,none⟩ = some (.int .i64 a1_2):=(kC BK248.out 2).trans rfl;have hcz15_3 : w13.cell? ⟨gb248,3,none⟩ = some (.int .i64 a1_3):=(kC BK248.out 3).trans rfl;have hfz15_0:=blk_frozen BK248.out 0;have hfz15_1:=blk_frozen BK248.out 1;have hfz15_2:=blk_frozen BK248.out 2;have hfz15_3:=blk_frozen BK248.out 3)|(go_at_call 59;(with_reducible refine (gazetteerref09_Box.calls a1_0 a1_1 a1_2 a1_3 t251 _ A9.out).mono ?_);rintro e w16 ⟨rfl,hb⟩;have n0_:=Kb BK247 hb;have n1_:=Kb BK248 hb;have n2_:=Kb BK249 hb;have n3_:=Kh HB hb;clear BK247 BK248 BK249 HB;have BK247:=n0_;have BK248:=n1_;have BK249:=n2_;have HB:=n3_;clear n0_ n1_ n2_ n3_;(try clear hb);(try clear hb2);(try clear hk);(try clear hi)))
   go_meet
   case rel => exact ⟨_,(!t251),(by first|rfl|(simp;done)|(simp [*];done)),H',⟨by first|omega|exact Nat.le_refl _⟩,⟨by (with_reducible repeat (first|refine kN ?_ _|refine kD ?_|refine kA ?_ _));exact BK247.out⟩,⟨by (with_reducible repeat (first|refine kN ?_ _|refine kD ?_|refine kA ?_ _));exact BK248.out⟩,⟨by (with_reducible repeat (first|refine kN ?_ _|refine kD ?_|refine kA ?_ _));exact BK249.out⟩,⟨by repeat (first|(with_reducible first|exact HB.out|apply bA|apply bN|apply bD|refine bS ?_ GE247.out|refine bS ?_ GE248.out|refine bS ?_ GE249.out)|exact HB.out)⟩⟩
  ·replace c8:=Bool.eq_false_iff.mpr c8
   subst c8
   have H1 : (gazetteerref09_Union.j0 k true a0_0 a0_1 a0_2 a0_3 a1_0 a1_1 a1_2 a1_3) = some (r1,r2,r3,r4):=by rw [if_neg (show ¬ (false = true) by decide)] at H;exact H
   clear H
   have H:=H1
   clear H1
   have H':=Ak H
   clear H
   have hnb17:=NB247_248.out
   have hnc17:=NB248_247.out
   have hnb18:=NB247_249.out
   have hnc18:=NB249_247.out
   have hcz19_0 : w6.cell? ⟨gb247,0,none⟩ = some (.int .i64 a0_0):=(kC BK247.out 0).trans rfl
   have hcz19_1 : w6.cell? ⟨gb247,1,none⟩ = some (.int .i64 a0_1):=(kC BK247.out 1).trans rfl
   have hcz19_2 : w6.cell? ⟨gb247,2,none⟩ = some (.int .i64 a0_2):=(kC BK247.out 2).trans rfl
   have hcz19_3 : w6.cell? ⟨gb247,3,none⟩ = some (.int .i64 a0_3):=(kC BK247.out 3).trans rfl
   have hfz19_0:=blk_frozen BK247.out 0
   have hfz19_1:=blk_frozen BK247.out 1
   have hfz19_2:=blk_frozen BK247.out 2
   have hfz19_3:=blk_frozen BK247.out 3
   go_wp2_with (first|((with_reducible refine gate_callee (f:=59) rfl ?_);refine goesL_ (some 6) rfl rfl Try.func59 (by kernel_rfl) rfl #[.agg #[.int .i64 a0_0,.int .i64 a0_1,.int .i64 a0_2,.int .i64 a0_3]] rfl (by (try simp only [List.map_toArray,List.map_cons,List.map_nil]);first|done|rfl|(simp only [List.length_drop,List.length_take];rfl)) ?_;(with_reducible refine (gazetteerref09_Box.calls a0_0 a0_1 a0_2 a0_3 false _ A7.out).mono ?_);rintro e w20 ⟨rfl,hb⟩;refine ⟨_,rfl,?_⟩;have n0_:=Kb BK247 hb;have n1_:=Kb BK248 hb;have n2_:=Kb BK249 hb;have n3_:=Kh HB hb;clear BK247 BK248 BK249 HB;have BK247:=n0_;have BK248:=n1_;have BK249:=n2_;have HB:=n3_;clear n0_ n1_ n2_ n3_;(try clear hb);(try clear hb2);(try clear hk);(try clear hi)))
   go_meet
   case rel => exact ⟨_,(true),(by first|rfl|(simp;done)|(simp [*];done)),H',⟨by first|omega|exact Nat.le_refl _⟩,⟨by (with_reducible repeat (first|refine kN ?_ _|refine kD ?_|refine kA ?_ _));exact BK247.out⟩,⟨by (with_reducible repeat (first|refine kN ?_ _|refine kD ?_|refine kA ?_ _));exact BK248.out⟩,⟨by (with_reducible repeat (first|refine kN ?_ _|refine kD ?_|refine kA ?_ _));exact BK249.out⟩,⟨by repeat (first|(with_reducible first|exact HB.out|apply bA|apply bN|apply bD|refine bS ?_ GE247.out|refine bS ?_ GE248.out|refine bS ?_ GE249.out)|exact HB.out)⟩⟩
 case rest =>
  clear HC3
  try clear c1
  try clear p2
  try clear c4
  try clear c5
  try clear c8
  try clear c10
  try clear c11
  try clear c14
  try clear c17
  try clear c18
  try clear hcz12_0
  try clear hcz12_1
  try clear hcz12_2
  try clear hcz12_3
  try clear hcz15_0
  try clear hcz15_1
  try clear hcz15_2
  try clear hcz15_3
  try clear hcz19_0
  try clear hcz19_1
  try clear hcz19_2
  try clear hcz19_3
  try clear hfz12_0
  try clear hfz12_1
  try clear hfz12_2
  try clear hfz12_3
  try clear hfz15_0
  try clear hfz15_1
  try clear hfz15_2
  try clear hfz15_3
  try clear hfz19_0
  try clear hfz19_1
  try clear hfz19_2
  try clear hfz19_3
  obtain ⟨kq,x12_2,rfl,HA,HJ2,BK247,BK248,BK249,HB⟩:=hcut
  cases kq with
  | zero => exact absurd HA.out (by simp [gazetteerref09_Union.j0])
  | succ kj2 =>
   have H:=HA.out
   clear HA
   simp only [gazetteerref09_Union.j0] at H
   by_cases c21 : x12_2 = true
   ·subst c21
    have H1 : (some (0,0,0,0)) = some (r1,r2,r3,r4):=by rw [if_pos rfl] at H;exact H
    clear H
    have H:=H1
    clear H1
    simp only [Option.some.injEq,Prod.mk.injEq] at H
    obtain ⟨rfl,rfl,rfl,rfl⟩:=H
    have hnb22:=NB249_247.out
    have hnc22:=NB247_249.out
    have hnb23:=NB249_248.out
    have hnc23:=NB248_249.out
    have hcz24_0 : wc.cell? ⟨gb249,0,none⟩ = some (.int .i64 0):=(kC BK249.out 0).trans rfl
    have hcz24_1 : wc.cell? ⟨gb249,1,none⟩ = some (.int .i64 0):=(kC BK249.out 1).trans rfl
    have hcz24_2 : wc.cell? ⟨gb249,2,none⟩ = some (.int .i64 0):=(kC BK249.out 2).trans rfl
    have hcz24_3 : wc.cell? ⟨gb249,3,none⟩ = some (.int .i64 0):=(kC BK249.out 3).trans rfl
    have hfz24_0:=blk_frozen BK249.out 0
    have hfz24_1:=blk_frozen BK249.out 1
    have hfz24_2:=blk_frozen BK249.out 2
    have hfz24_3:=blk_frozen BK249.out 3
    go_wp2
    refine bodyPost_ret (results_cell_row rfl _ _ gb249 35 #[.int .i64 0,.int .i64 0,.int .i64 0,.int .i64 0] (0,0) _ rfl (by (with_reducible repeat (first|refine kN ?_ _|refine kD ?_|refine kA ?_ _));refine blk_put (cs:=#[.int .i64 0,.int .i64 0,.int .i64 0,.int .i64 0]) ?_ 3 _ rfl;(with_reducible repeat (first|refine kN ?_ _|refine kD ?_|refine kA ?_ _));refine blk_put (cs:=#[.int .i64 0,.int .i64 0,.int .i64 0,.int .i64 0]) ?_ 2 _ rfl;(with_reducible repeat (first|refine kN ?_ _|refine kD ?_|refine kA ?_ _));refine blk_put (cs:=#[.int .i64 0,.int .i64 0,.int .i64 0,.int .i64 0]) ?_ 1 _ rfl;(with_reducible repeat (first|refine kN ?_ _|refine kD ?_|refine kA ?_ _));refine blk_put (cs:=#[.int .i64 0,.int .i64 0,.int .i64 0,.int .i64 0]) ?_ 0 _ rfl;(with_reducible repeat (first|refine kN ?_ _|refine kD ?_|refine kA ?_ _));exact BK249.out) Try.underlying35 rfl (by kernel_rfl)) rfl ?_
    exact ⟨by first|rfl|(simp [errW_none,errW_some] <;> rfl)|(simp [*,errW_none,errW_some] <;> rfl),by repeat (first|(with_reducible first|exact HB.out|apply bA|apply bN|apply bD|refine bS ?_ GE247.out|refine bS ?_ GE248.out|refine bS ?_ GE249.out)|exact HB.out)⟩
   ·replace c21:=Bool.eq_false_iff.mpr c21
    subst c21
    have H1 : (if a1_0 < a0_0 then (gazetteerref09_Union.j1 kj2 a1_0 a0_1 a0_2 a0_3 a1_0 a1_1 a1_2 a1_3) else (gazetteerref09_Union.j1 kj2 a0_0 a0_1 a0_2 a0_3 a1_0 a1_1 a1_2 a1_3)) = some (r1,r2,r3,r4):=by rw [if_neg (show ¬ (false = true) by decide)] at H;exact H
    clear H
    have H:=H1
    clear H1
    have HC25:=Ak H
    clear H
    have hnb26:=NB248_247.out
    have hnc26:=NB247_248.out
    have hnb27:=NB248_249.out
    have hnc27:=NB249_248.out
    have hcz28_0 : wc.cell? ⟨gb248,0,none⟩ = some (.int .i64 a1_0):=(kC BK248.out 0).trans rfl
    have hcz28_1 : wc.cell? ⟨gb248,1,none⟩ = some (.int .i64 a1_1):=(kC BK248.out 1).trans rfl
    have hcz28_2 : wc.cell? ⟨gb248,2,none⟩ = some (.int .i64 a1_2):=(kC BK248.out 2).trans rfl
    have hcz28_3 : wc.cell? ⟨gb248,3,none⟩ = some (.int .i64 a1_3):=(kC BK248.out 3).trans rfl
    have hfz28_0:=blk_frozen BK248.out 0
    have hfz28_1:=blk_frozen BK248.out 1
    have hfz28_2:=blk_frozen BK248.out 2
    have hfz28_3:=blk_frozen BK248.out 3
    have hnb29:=NB247_249.out
    have hnc29:=NB249_247.out
    have hcz30_0 : wc.cell? ⟨gb247,0,none⟩ = some (.int .i64 a0_0):=(kC BK247.out 0).trans rfl
    have hcz30_1 : wc.cell? ⟨gb247,1,none⟩ = some (.int .i64 a0_1):=(kC BK247.out 1).trans rfl
    have hcz30_2 : wc.cell? ⟨gb247,2,none⟩ = some (.int .i64 a0_2):=(kC BK247.out 2).trans rfl
    have hcz30_3 : wc.cell? ⟨gb247,3,none⟩ = some (.int .i64 a0_3):=(kC BK247.out 3).trans rfl
    have hfz30_0:=blk_frozen BK247.out 0
    have hfz30_1:=blk_frozen BK247.out 1
    have hfz30_2:=blk_frozen BK247.out 2
    have hfz30_3:=blk_frozen BK247.out 3
    go_upto_if 18 with (fail)
    go_cut [] (fun wc => ∃ (kq : Nat) (x248000_24 : Int),Aside0 (gazetteerref09_Union.j1 kq x248000_24 a0_1 a0_2 a0_3 a1_0 a1_1 a1_2 a1_3 = some (r1,r2,r3,r4))∧Aside0 (kq ≤ kj2)∧Aside0 (wc.heap[gb247]? = some (.cells #[.int .i64 x248000_24,.int .i64 a0_1,.int .i64 a0_2,.int .i64 a0_3] 35 (0,0)))∧Aside0 (wc.heap[gb248]? = some (.cells #[.int .i64 a1_0,.int .i64 a1_1,.int .i64 a1_2,.int .i64 a1_3] 35 (0,0)))∧Aside0 (wc.heap[gb249]? = some (.cells #[.int .i64 0,.int .i64 0,.int .i64 0,.int .i64 0] 35 (0,0)))∧Aside0 (Below w.heap.size w wc))
    case first =>
     have H:=HC25.out
     clear HC25
     by_cases c31 : a1_0 < a0_0
     ·rw [if_pos c31] at H
      have c31b0 : decide (a1_0 < a0_0) = true:=decide_eq_true c31
      clear c31
      (first|rw [c31b0]|(simp only [i64_w,i32_w];rw [c31b0])|skip)
      have H':=Ak H
      clear H
      have hnb32:=NB248_247.out
      have hnc32:=NB247_248.out
      have hnb33:=NB248_249.out
      have hnc33:=NB249_248.out
      have hcz34_0 : wc.cell? ⟨gb248,0,none⟩ = some (.int .i64 a1_0):=(kC BK248.out 0).trans rfl
      have hcz34_1 : wc.cell? ⟨gb248,1,none⟩ = some (.int .i64 a1_1):=(kC BK248.out 1).trans rfl
      have hcz34_2 : wc.cell? ⟨gb248,2,none⟩ = some (.int .i64 a1_2):=(kC BK248.out 2).trans rfl
      have hcz34_3 : wc.cell? ⟨gb248,3,none⟩ = some (.int .i64 a1_3):=(kC BK248.out 3).trans rfl
      have hfz34_0:=blk_frozen BK248.out 0
      have hfz34_1:=blk_frozen BK248.out 1
      have hfz34_2:=blk_frozen BK248.out 2
      have hfz34_3:=blk_frozen BK248.out 3
      have hnb35:=NB247_249.out
      have hnc35:=NB249_247.out
      have hcz36_0 : wc.cell? ⟨gb247,0,none⟩ = some (.int .i64 a0_0):=(kC BK247.out 0).trans rfl
      have hcz36_1 : wc.cell? ⟨gb247,1,none⟩ = some (.int .i64 a0_1):=(kC BK247.out 1).trans rfl
      have hcz36_2 : wc.cell? ⟨gb247,2,none⟩ = some (.int .i64 a0_2):=(kC BK247.out 2).trans rfl
      have hcz36_3 : wc.cell? ⟨gb247,3,none⟩ = some (.int .i64 a0_3):=(kC BK247.out 3).trans rfl
      have hfz36_0:=blk_frozen BK247.out 0
      have hfz36_1:=blk_frozen BK247.out 1
      have hfz36_2:=blk_frozen BK247.out 2
      have hfz36_3:=blk_frozen BK247.out 3
      go_wp2
      go_meet
      case rel => exact ⟨_,(a1_0),H',⟨by have:=HJ2.out;first|omega|exact Nat.le_refl _⟩,⟨by (with_reducible repeat (first|refine kN ?_ _|refine kD ?_|refine kA ?_ _));refine blk_put (cs:=#[.int .i64 a0_0,.int .i64 a0_1,.int .i64 a0_2,.int .i64 a0_3]) ?_ 0 _ rfl;(with_reducible repeat (first|refine kN ?_ _|refine kD ?_|refine kA ?_ _));exact BK247.out⟩,⟨by (with_reducible repeat (first|refine kN ?_ _|refine kD ?_|refine kA ?_ _));refine blk_far ?_ NB248_247.out _;(with_reducible repeat (first|refine kN ?_ _|refine kD ?_|refine kA ?_ _));exact BK248.out⟩,⟨by (with_reducible repeat (first|refine kN ?_ _|refine kD ?_|refine kA ?_ _));refine blk_far ?_ NB249_247.out _;(with_reducible repeat (first|refine kN ?_ _|refine kD ?_|refine kA ?_ _));exact BK249.out⟩,⟨by repeat (first|(with_reducible first|exact HB.out|apply bA|apply bN|apply bD|refine bS ?_ GE247.out|refine bS ?_ GE248.out|refine bS ?_ GE249.out)|exact HB.out)⟩⟩
     ·rw [if_neg c31] at H
      have c31b0 : decide (a1_0 < a0_0) = false:=decide_eq_false c31
      clear c31
      (first|rw [c31b0]|(simp only [i64_w,i32_w];rw [c31b0])|skip)
      have H':=Ak H
      clear H
      go_wp2
      go_meet
      case rel => exact ⟨_,(a0_0),H',⟨by have:=HJ2.out;first|omega|exact Nat.le_refl _⟩,⟨by (with_reducible repeat (first|refine kN ?_ _|refine kD ?_|refine kA ?_ _));exact BK247.out⟩,⟨by (with_reducible repeat (first|refine kN ?_ _|refine kD ?_|refine kA ?_ _));exact BK248.out⟩,⟨by (with_reducible repeat (first|refine kN ?_ _|refine kD ?_|refine kA ?_ _));exact BK249.out⟩,⟨by repeat (first|(with_reducible first|exact HB.out|apply bA|apply bN|apply bD|refine bS ?_ GE247.out|refine bS ?_ GE248.out|refine bS ?_ GE249.out)|exact HB.out)⟩⟩
    case rest =>
     clear HC25
     try clear c1
     try clear c2
     try clear p2
     try clear c3
     try clear c4
     try clear c5
     try clear c8
     try clear c10
     try clear c11
     try clear c14
     try clear c17
     try clear c18
     try clear c21
     try clear c22
     try clear c23
     try clear c26
     try clear c27
     try clear c29
     try clear c31
     try clear c31b0
     try clear c32
     try clear c33
     try clear c35
     try clear hcz12_0
     try clear hcz12_1
     try clear hcz12_2
     try clear hcz12_3
     try clear hcz15_0
     try clear hcz15_1
     try clear hcz15_2
     try clear hcz15_3
     try clear hcz19_0
     try clear hcz19_1
     try clear hcz19_2
     try clear hcz19_3
     try clear hcz24_0
     try clear hcz24_1
     try clear hcz24_2
     try clear hcz24_3
     try clear hcz28_0
     try clear hcz28_1
     try clear hcz28_2
     try clear hcz28_3
     try clear hcz30_0
     try clear hcz30_1
     try clear hcz30_2
     try clear hcz30_3
     try clear hcz34_0
     try clear hcz34_1
     try clear hcz34_2
     try clear hcz34_3
     try clear hcz36_0
     try clear hcz36_1
     try clear hcz36_2
     try clear hcz36_3
     try clear hfz12_0
     try clear hfz12_1
     try clear hfz12_2
     try clear hfz12_3
     try clear hfz15_0
     try clear hfz15_1
     try clear hfz15_2
     try clear hfz15_3
     try clear hfz19_0
     try clear hfz19_1
     try clear hfz19_2
     try clear hfz19_3
     try clear hfz24_0
     try clear hfz24_1
     try clear hfz24_2
     try clear hfz24_3
     try clear hfz28_0
     try clear hfz28_1
     try clear hfz28_2
     try clear hfz28_3
     try clear hfz30_0
     try clear hfz30_1
     try clear hfz30_2
     try clear hfz30_3
     try clear hfz34_0
     try clear hfz34_1
     try clear hfz34_2
     try clear hfz34_3
     try clear hfz36_0
     try clear hfz36_1
     try clear hfz36_2
     try clear hfz36_3
     try clear p2
     obtain ⟨kq,x248000_24,HA,HJ24,BK247,BK248,BK249,HB⟩:=hcut
     cases kq with
     | zero => exact absurd HA.out (by simp [gazetteerref09_Union.j1])
     | succ kj24 =>
      have H:=HA.out
      clear HA
      simp only [gazetteerref09_Union.j1] at H
      have HC37:=Ak H
      clear H
      have hnb38:=NB248_247.out
      have hnc38:=NB247_248.out
      have hnb39:=NB248_249.out
      have hnc39:=NB249_248.out
      have hcz40_0 : wc.cell? ⟨gb248,0,none⟩ = some (.int .i64 a1_0):=(kC BK248.out 0).trans rfl
      have hcz40_1 : wc.cell? ⟨gb248,1,none⟩ = some (.int .i64 a1_1):=(kC BK248.out 1).trans rfl
      have hcz40_2 : wc.cell? ⟨gb248,2,none⟩ = some (.int .i64 a1_2):=(kC BK248.out 2).trans rfl
      have hcz40_3 : wc.cell? ⟨gb248,3,none⟩ = some (.int .i64 a1_3):=(kC BK248.out 3).trans rfl
      have hfz40_0:=blk_frozen BK248.out 0
      have hfz40_1:=blk_frozen BK248.out 1
      have hfz40_2:=blk_frozen BK248.out 2
      have hfz40_3:=blk_frozen BK248.out 3
      have hnb41:=NB247_249.out
      have hnc41:=NB249_247.out
      have hcz42_0 : wc.cell? ⟨gb247,0,none⟩ = some (.int .i64 x248000_24):=(kC BK247.out 0).trans rfl
      have hcz42_1 : wc.cell? ⟨gb247,1,none⟩ = some (.int .i64 a0_1):=(kC BK247.out 1).trans rfl
      have hcz42_2 : wc.cell? ⟨gb247,2,none⟩ = some (.int .i64 a0_2):=(kC BK247.out 2).trans rfl
      have hcz42_3 : wc.cell? ⟨gb247,3,none⟩ = some (.int .i64 a0_3):=(kC BK247.out 3).trans rfl
      have hfz42_0:=blk_frozen BK247.out 0
      have hfz42_1:=blk_frozen BK247.out 1
      have hfz42_2:=blk_frozen BK247.out 2
      have hfz42_3:=blk_frozen BK247.out 3
      go_upto_if 26 with (fail)
      go_cut [] (fun wc => ∃ (kq : Nat) (x248001_36 : Int),Aside0 (gazetteerref09_Union.j2 kq x248000_24 x248001_36 a0_2 a0_3 a1_0 a1_1 a1_2 a1_3 = some (r1,r2,r3,r4))∧Aside0 (kq ≤ kj24)∧Aside0 (wc.heap[gb247]? = some (.cells #[.int .i64 x248000_24,.int .i64 x248001_36,.int .i64 a0_2,.int .i64 a0_3] 35 (0,0)))∧Aside0 (wc.heap[gb248]? = some (.cells #[.int .i64 a1_0,.int .i64 a1_1,.int .i64 a1_2,.int .i64 a1_3] 35 (0,0)))∧Aside0 (wc.heap[gb249]? = some (.cells #[.int .i64 0,.int .i64 0,.int .i64 0,.int .i64 0] 35 (0,0)))∧Aside0 (Below w.heap.size w wc))
      case first =>
       have H:=HC37.out
       clear HC37
       by_cases c43 : a1_1 > a0_1
       ·rw [if_pos c43] at H
        have c43b0 : decide (a0_1 < a1_1) = true:=decide_eq_true c43
        clear c43
        (first|rw [c43b0]|(simp only [i64_w,i32_w];rw [c43b0])|skip)
        have H':=Ak H
        clear H
        have hnb44:=NB248_247.out
        have hnc44:=NB247_248.out
        have hnb45:=NB248_249.out
        have hnc45:=NB249_248.out
        have hcz46_0 : wc.cell? ⟨gb248,0,none⟩ = some (.int .i64 a1_0):=(kC BK248.out 0).trans rfl
        have hcz46_1 : wc.cell? ⟨gb248,1,none⟩ = some (.int .i64 a1_1):=(kC BK248.out 1).trans rfl
        have hcz46_2 : wc.cell? ⟨gb248,2,none⟩ = some (.int .i64 a1_2):=(kC BK248.out 2).trans rfl
        have hcz46_3 : wc.cell? ⟨gb248,3,none⟩ = some (.int .i64 a1_3):=(kC BK248.out 3).trans rfl
        have hfz46_0:=blk_frozen BK248.out 0
        have hfz46_1:=blk_frozen BK248.out 1
        have hfz46_2:=blk_frozen BK248.out 2
        have hfz46_3:=blk_frozen BK248.out 3
        have hnb47:=NB247_249.out
        have hnc47:=NB249_247.out
        have hcz48_0 : wc.cell? ⟨gb247,0,none⟩ = some (.int .i64 x248000_24):=(kC BK247.out 0).trans rfl
        have hcz48_1 : wc.cell? ⟨gb247,1,none⟩ = some (.int .i64 a0_1):=(kC BK247.out 1).trans rfl
        have hcz48_2 : wc.cell? ⟨gb247,2,none⟩ = some (.int .i64 a0_2):=(kC BK247.out 2).trans rfl
        have hcz48_3 : wc.cell? ⟨gb247,3,none⟩ = some (.int .i64 a0_3):=(kC BK247.out 3).trans rfl
        have hfz48_0:=blk_frozen BK247.out 0
        have hfz48_1:=blk_frozen BK247.out 1
        have hfz48_2:=blk_frozen BK247.out 2
        have hfz48_3:=blk_frozen BK247.out 3
        go_wp2
        go_meet
        case rel => exact ⟨_,(a1_1),H',⟨by have:=HJ2.out;have:=HJ24.out;first|omega|exact Nat.le_refl _⟩,⟨by (with_reducible repeat (first|refine kN ?_ _|refine kD ?_|refine kA ?_ _));refine blk_put (cs:=#[.int .i64 x248000_24,.int .i64 a0_1,.int .i64 a0_2,.int .i64 a0_3]) ?_ 1 _ rfl;(with_reducible repeat (first|refine kN ?_ _|refine kD ?_|refine kA ?_ _));exact BK247.out⟩,⟨by (with_reducible repeat (first|refine kN ?_ _|refine kD ?_|refine kA ?_ _));refine blk_far ?_ NB248_247.out _;(with_reducible repeat (first|refine kN ?_ _|refine kD ?_|refine kA ?_ _));exact BK248.out⟩,⟨by (with_reducible repeat (first|refine kN ?_ _|refine kD ?_|refine kA ?_ _));refine blk_far ?_ NB249_247.out _;(with_reducible repeat (first|refine kN ?_ _|refine kD ?_|refine kA ?_ _));exact BK249.out⟩,⟨by repeat (first|(with_reducible first|exact HB.out|apply bA|apply bN|apply bD|refine bS ?_ GE247.out|refine bS ?_ GE248.out|refine bS ?_ GE249.out)|exact HB.out)⟩⟩
       ·rw [if_neg c43] at H
        have c43b0 : decide (a0_1 < a1_1) = false:=decide_eq_false c43
        clear c43
        (first|rw [c43b0]|(simp only [i64_w,i32_w];rw [c43b0])|skip)
        have H':=Ak H
        clear H
        go_wp2
        go_meet
        case rel => exact ⟨_,(a0_1),H',⟨by have:=HJ2.out;have:=HJ24.out;first|omega|exact Nat.le_refl _⟩,⟨by (with_reducible repeat (first|refine kN ?_ _|refine kD ?_|refine kA ?_ _));exact BK247.out⟩,⟨by (with_reducible repeat (first|refine kN ?_ _|refine kD ?_|refine kA ?_ _));exact BK248.out⟩,⟨by (with_reducible repeat (first|refine kN ?_ _|refine kD ?_|refine kA ?_ _));exact BK249.out⟩,⟨by repeat (first|(with_reducible first|exact HB.out|apply bA|apply bN|apply bD|refine bS ?_ GE247.out|refine bS ?_ GE248.out|refine bS ?_ GE249.out)|exact HB.out)⟩⟩
      case rest =>
       clear HC37
       try clear c1
       try clear c2
       try clear p2
       try clear c3
       try clear c4
       try clear c5
       try clear c8
       try clear c10
       try clear c11
       try clear c14
       try clear c17
       try clear c18
       try clear c21
       try clear c22
       try clear c23
       try clear c26
       try clear c27
       try clear c29
       try clear c31
       try clear c31b0
       try clear c32
       try clear c33
       try clear c35
       try clear c38
       try clear c39
       try clear c41
       try clear c43
       try clear c43b0
       try clear c44
       try clear c45
       try clear c46
       try clear c47
       try clear hcz12_0
       try clear hcz12_1
       try clear hcz12_2
       try clear hcz12_3
       try clear hcz15_0
       try clear hcz15_1
       try clear hcz15_2
       try clear hcz15_3
       try clear hcz19_0
       try clear hcz19_1
       try clear hcz19_2
       try clear hcz19_3
       try clear hcz24_0
       try clear hcz24_1
       try clear hcz24_2
       try clear hcz24_3
       try clear hcz28_0
       try clear hcz28_1
       try clear hcz28_2
       try clear hcz28_3
       try clear hcz30_0
       try clear hcz30_1
       try clear hcz30_2
       try clear hcz30_3
       try clear hcz34_0
       try clear hcz34_1
       try clear hcz34_2
       try clear hcz34_3
       try clear hcz36_0
       try clear hcz36_1
       try clear hcz36_2
       try clear hcz36_3
       try clear hcz40_0
       try clear hcz40_1
       try clear hcz40_2
       try clear hcz40_3
       try clear hcz42_0
       try clear hcz42_1
       try clear hcz42_2
       try clear hcz42_3
       try clear hcz46_0
       try clear hcz46_1
       try clear hcz46_2
       try clear hcz46_3
       try clear hcz48_0
       try clear hcz48_1
       try clear hcz48_2
       try clear hcz48_3
       try clear hfz12_0
       try clear hfz12_1
       try clear hfz12_2
       try clear hfz12_3
       try clear hfz15_0
       try clear hfz15_1
       try clear hfz15_2
       try clear hfz15_3
       try clear hfz19_0
       try clear hfz19_1
       try clear hfz19_2
       try clear hfz19_3
       try clear hfz24_0
       try clear hfz24_1
       try clear hfz24_2
       try clear hfz24_3
       try clear hfz28_0
       try clear hfz28_1
       try clear hfz28_2
       try clear hfz28_3
       try clear hfz30_0
       try clear hfz30_1
       try clear hfz30_2
       try clear hfz30_3
       try clear hfz34_0
       try clear hfz34_1
       try clear hfz34_2
       try clear hfz34_3
       try clear hfz36_0
       try clear hfz36_1
       try clear hfz36_2
       try clear hfz36_3
       try clear hfz40_0
       try clear hfz40_1
       try clear hfz40_2
       try clear hfz40_3
       try clear hfz42_0
       try clear hfz42_1
       try clear hfz42_2
       try clear hfz42_3
       try clear hfz46_0
       try clear hfz46_1
       try clear hfz46_2
       try clear hfz46_3
       try clear hfz48_0
       try clear hfz48_1
       try clear hfz48_2
       try clear hfz48_3
       try clear p2
       obtain ⟨kq,x248001_36,HA,HJ36,BK247,BK248,BK249,HB⟩:=hcut
       cases kq with
       | zero => exact absurd HA.out (by simp [gazetteerref09_Union.j2])
       | succ kj36 =>
        have H:=HA.out
        clear HA
        simp only [gazetteerref09_Union.j2] at H
        by_cases c49 : a1_2 < a0_2
        ·rw [if_pos c49] at H
         have c49b0 : decide (a1_2 < a0_2) = true:=decide_eq_true c49
         clear c49
         by_cases c50 : a1_3 > a0_3
         ·rw [if_pos c50] at H
          have c50b0 : decide (a0_3 < a1_3) = true:=decide_eq_true c50
          clear c50
          simp only [Option.some.injEq,Prod.mk.injEq] at H
          obtain ⟨rfl,rfl,rfl,rfl⟩:=H
          have hnb51:=NB248_247.out
          have hnc51:=NB247_248.out
          have hnb52:=NB248_249.out
          have hnc52:=NB249_248.out
          have hcz53_0 : wc.cell? ⟨gb248,0,none⟩ = some (.int .i64 a1_0):=(kC BK248.out 0).trans rfl
          have hcz53_1 : wc.cell? ⟨gb248,1,none⟩ = some (.int .i64 a1_1):=(kC BK248.out 1).trans rfl
          have hcz53_2 : wc.cell? ⟨gb248,2,none⟩ = some (.int .i64 a1_2):=(kC BK248.out 2).trans rfl
          have hcz53_3 : wc.cell? ⟨gb248,3,none⟩ = some (.int .i64 a1_3):=(kC BK248.out 3).trans rfl
          have hfz53_0:=blk_frozen BK248.out 0
          have hfz53_1:=blk_frozen BK248.out 1
          have hfz53_2:=blk_frozen BK248.out 2
          have hfz53_3:=blk_frozen BK248.out 3
          have hnb54:=NB247_249.out
          have hnc54:=NB249_247.out
          have hcz55_0 : wc.cell? ⟨gb247,0,none⟩ = some (.int .i64 x248000_24):=(kC BK247.out 0).trans rfl
          have hcz55_1 : wc.cell? ⟨gb247,1,none⟩ = some (.int .i64 x248001_36):=(kC BK247.out 1).trans rfl
          have hcz55_2 : wc.cell? ⟨gb247,2,none⟩ = some (.int .i64 a0_2):=(kC BK247.out 2).trans rfl
          have hcz55_3 : wc.cell? ⟨gb247,3,none⟩ = some (.int .i64 a0_3):=(kC BK247.out 3).trans rfl
          have hfz55_0:=blk_frozen BK247.out 0
          have hfz55_1:=blk_frozen BK247.out 1
          have hfz55_2:=blk_frozen BK247.out 2
          have hfz55_3:=blk_frozen BK247.out 3
          have hcz56_0 : wc.cell? ⟨gb249,0,none⟩ = some (.int .i64 0):=(kC BK249.out 0).trans rfl
          have hcz56_1 : wc.cell? ⟨gb249,1,none⟩ = some (.int .i64 0):=(kC BK249.out 1).trans rfl
          have hcz56_2 : wc.cell? ⟨gb249,2,none⟩ = some (.int .i64 0):=(kC BK249.out 2).trans rfl
          have hcz56_3 : wc.cell? ⟨gb249,3,none⟩ = some (.int .i64 0):=(kC BK249.out 3).trans rfl
          have hfz56_0:=blk_frozen BK249.out 0
          have hfz56_1:=blk_frozen BK249.out 1
          have hfz56_2:=blk_frozen BK249.out 2
          have hfz56_3:=blk_frozen BK249.out 3
          go_wp2
          refine bodyPost_ret (results_cell_row rfl _ _ gb249 35 #[.int .i64 x248000_24,.int .i64 x248001_36,.int .i64 a1_2,.int .i64 a1_3] (0,0) _ rfl (by (with_reducible repeat (first|refine kN ?_ _|refine kD ?_|refine kA ?_ _));refine blk_put (cs:=#[.int .i64 x248000_24,.int .i64 x248001_36,.int .i64 a1_2,.int .i64 0]) ?_ 3 _ rfl;(with_reducible repeat (first|refine kN ?_ _|refine kD ?_|refine kA ?_ _));refine blk_put (cs:=#[.int .i64 x248000_24,.int .i64 x248001_36,.int .i64 0,.int .i64 0]) ?_ 2 _ rfl;(with_reducible repeat (first|refine kN ?_ _|refine kD ?_|refine kA ?_ _));refine blk_put (cs:=#[.int .i64 x248000_24,.int .i64 0,.int .i64 0,.int .i64 0]) ?_ 1 _ rfl;(with_reducible repeat (first|refine kN ?_ _|refine kD ?_|refine kA ?_ _));refine blk_put (cs:=#[.int .i64 0,.int .i64 0,.int .i64 0,.int .i64 0]) ?_ 0 _ rfl;(with_reducible repeat (first|refine kN ?_ _|refine kD ?_|refine kA ?_ _));refine blk_far ?_ NB249_247.out _;(with_reducible repeat (first|refine kN ?_ _|refine kD ?_|refine kA ?_ _));refine blk_far ?_ NB249_247.out _;(with_reducible repeat (first|refine kN ?_ _|refine kD ?_|refine kA ?_ _));exact BK249.out) Try.underlying35 rfl (by kernel_rfl)) rfl ?_
          exact ⟨by first|rfl|(simp [errW_none,errW_some] <;> rfl)|(simp [*,errW_none,errW_some] <;> rfl),by repeat (first|(with_reducible first|exact HB.out|apply bA|apply bN|apply bD|refine bS ?_ GE247.out|refine bS ?_ GE248.out|refine bS ?_ GE249.out)|exact HB.out)⟩
         ·rw [if_neg c50] at H
          have c50b0 : decide (a0_3 < a1_3) = false:=decide_eq_false c50
          clear c50
          simp only [Option.some.injEq,Prod.mk.injEq] at H
          obtain ⟨rfl,rfl,rfl,rfl⟩:=H
          have hnb57:=NB248_247.out
          have hnc57:=NB247_248.out
          have hnb58:=NB248_249.out
          have hnc58:=NB249_248.out
          have hcz59_0 : wc.cell? ⟨gb248,0,none⟩ = some (.int .i64 a1_0):=(kC BK248.out 0).trans rfl
          have hcz59_1 : wc.cell? ⟨gb248,1,none⟩ = some (.int .i64 a1_1):=(kC BK248.out 1).trans rfl
          have hcz59_2 : wc.cell? ⟨gb248,2,none⟩ = some (.int .i64 a1_2):=(kC BK248.out 2).trans rfl
          have hcz59_3 : wc.cell? ⟨gb248,3,none⟩ = some (.int .i64 a1_3):=(kC BK248.out 3).trans rfl
          have hfz59_0:=blk_frozen BK248.out 0
          have hfz59_1:=blk_frozen BK248.out 1
          have hfz59_2:=blk_frozen BK248.out 2
          have hfz59_3:=blk_frozen BK248.out 3
          have hnb60:=NB247_249.out
          have hnc60:=NB249_247.out
          have hcz61_0 : wc.cell? ⟨gb247,0,none⟩ = some (.int .i64 x248000_24):=(kC BK247.out 0).trans rfl
          have hcz61_1 : wc.cell? ⟨gb247,1,none⟩ = some (.int .i64 x248001_36):=(kC BK247.out 1).trans rfl
          have hcz61_2 : wc.cell? ⟨gb247,2,none⟩ = some (.int .i64 a0_2):=(kC BK247.out 2).trans rfl
          have hcz61_3 : wc.cell? ⟨gb247,3,none⟩ = some (.int .i64 a0_3):=(kC BK247.out 3).trans rfl
          have hfz61_0:=blk_frozen BK247.out 0
          have hfz61_1:=blk_frozen BK247.out 1
          have hfz61_2:=blk_frozen BK247.out 2
          have hfz61_3:=blk_frozen BK247.out 3
          have hcz62_0 : wc.cell? ⟨gb249,0,none⟩ = some (.int .i64 0):=(kC BK249.out 0).trans rfl
          have hcz62_1 : wc.cell? ⟨gb249,1,none⟩ = some (.int .i64 0):=(kC BK249.out 1).trans rfl
          have hcz62_2 : wc.cell? ⟨gb249,2,none⟩ = some (.int .i64 0):=(kC BK249.out 2).trans rfl
          have hcz62_3 : wc.cell? ⟨gb249,3,none⟩ = some (.int .i64 0):=(kC BK249.out 3).trans rfl
          have hfz62_0:=blk_frozen BK249.out 0
          have hfz62_1:=blk_frozen BK249.out 1
          have hfz62_2:=blk_frozen BK249.out 2
          have hfz62_3:=blk_frozen BK249.out 3
          go_wp2
          refine bodyPost_ret (results_cell_row rfl _ _ gb249 35 #[.int .i64 x248000_24,.int .i64 x248001_36,.int .i64 a1_2,.int .i64 a0_3] (0,0) _ rfl (by (with_reducible repeat (first|refine kN ?_ _|refine kD ?_|refine kA ?_ _));refine blk_put (cs:=#[.int .i64 x248000_24,.int .i64 x248001_36,.int .i64 a1_2,.int .i64 0]) ?_ 3 _ rfl;(with_reducible repeat (first|refine kN ?_ _|refine kD ?_|refine kA ?_ _));refine blk_put (cs:=#[.int .i64 x248000_24,.int .i64 x248001_36,.int .i64 0,.int .i64 0]) ?_ 2 _ rfl;(with_reducible repeat (first|refine kN ?_ _|refine kD ?_|refine kA ?_ _));refine blk_put (cs:=#[.int .i64 x248000_24,.int .i64 0,.int .i64 0,.int .i64 0]) ?_ 1 _ rfl;(with_reducible repeat (first|refine kN ?_ _|refine kD ?_|refine kA ?_ _));refine blk_put (cs:=#[.int .i64 0,.int .i64 0,.int .i64 0,.int .i64 0]) ?_ 0 _ rfl;(with_reducible repeat (first|refine kN ?_ _|refine kD ?_|refine kA ?_ _));refine blk_far ?_ NB249_247.out _;(with_reducible repeat (first|refine kN ?_ _|refine kD ?_|refine kA ?_ _));exact BK249.out) Try.underlying35 rfl (by kernel_rfl)) rfl ?_
          exact ⟨by first|rfl|(simp [errW_none,errW_some] <;> rfl)|(simp [*,errW_none,errW_some] <;> rfl),by repeat (first|(with_reducible first|exact HB.out|apply bA|apply bN|apply bD|refine bS ?_ GE247.out|refine bS ?_ GE248.out|refine bS ?_ GE249.out)|exact HB.out)⟩
        ·rw [if_neg c49] at H
         have c49b0 : decide (a1_2 < a0_2) = false:=decide_eq_false c49
         clear c49
         by_cases c63 : a1_3 > a0_3
         ·rw [if_pos c63] at H
          have c63b0 : decide (a0_3 < a1_3) = true:=decide_eq_true c63
          clear c63
          simp only [Option.some.injEq,Prod.mk.injEq] at H
          obtain ⟨rfl,rfl,rfl,rfl⟩:=H
          have hnb64:=NB248_247.out
          have hnc64:=NB247_248.out
          have hnb65:=NB248_249.out
          have hnc65:=NB249_248.out
          have hcz66_0 : wc.cell? ⟨gb248,0,none⟩ = some (.int .i64 a1_0):=(kC BK248.out 0).trans rfl
          have hcz66_1 : wc.cell? ⟨gb248,1,none⟩ = some (.int .i64 a1_1):=(kC BK248.out 1).trans rfl
          have hcz66_2 : wc.cell? ⟨gb248,2,none⟩ = some (.int .i64 a1_2):=(kC BK248.out 2).trans rfl
          have hcz66_3 : wc.cell? ⟨gb248,3,none⟩ = some (.int .i64 a1_3):=(kC BK248.out 3).trans rfl
          have hfz66_0:=blk_frozen BK248.out 0
          have hfz66_1:=blk_frozen BK248.out 1
          have hfz66_2:=blk_frozen BK248.out 2
          have hfz66_3:=blk_frozen BK248.out 3
          have hnb67:=NB247_249.out
          have hnc67:=NB249_247.out
          have hcz68_0 : wc.cell? ⟨gb247,0,none⟩ = some (.int .i64 x248000_24):=(kC BK247.out 0).trans rfl
          have hcz68_1 : wc.cell? ⟨gb247,1,none⟩ = some (.int .i64 x248001_36):=(kC BK247.out 1).trans rfl
          have hcz68_2 : wc.cell? ⟨gb247,2,none⟩ = some (.int .i64 a0_2):=(kC BK247.out 2).trans rfl
          have hcz68_3 : wc.cell? ⟨gb247,3,none⟩ = some (.int .i64 a0_3):=(kC BK247.out 3).trans rfl
          have hfz68_0:=blk_frozen BK247.out 0
          have hfz68_1:=blk_frozen BK247.out 1
          have hfz68_2:=blk_frozen BK247.out 2
          have hfz68_3:=blk_frozen BK247.out 3
          have hcz69_0 : wc.cell? ⟨gb249,0,none⟩ = some (.int .i64 0):=(kC BK249.out 0).trans rfl
          have hcz69_1 : wc.cell? ⟨gb249,1,none⟩ = some (.int .i64 0):=(kC BK249.out 1).trans rfl
          have hcz69_2 : wc.cell? ⟨gb249,2,none⟩ = some (.int .i64 0):=(kC BK249.out 2).trans rfl
          have hcz69_3 : wc.cell? ⟨gb249,3,none⟩ = some (.int .i64 0):=(kC BK249.out 3).trans rfl
          have hfz69_0:=blk_frozen BK249.out 0
          have hfz69_1:=blk_frozen BK249.out 1
          have hfz69_2:=blk_frozen BK249.out 2
          have hfz69_3:=blk_frozen BK249.out 3
          go_wp2
          refine bodyPost_ret (results_cell_row rfl _ _ gb249 35 #[.int .i64 x248000_24,.int .i64 x248001_36,.int .i64 a0_2,.int .i64 a1_3] (0,0) _ rfl (by (with_reducible repeat (first|refine kN ?_ _|refine kD ?_|refine kA ?_ _));refine blk_put (cs:=#[.int .i64 x248000_24,.int .i64 x248001_36,.int .i64 a0_2,.int .i64 0]) ?_ 3 _ rfl;(with_reducible repeat (first|refine kN ?_ _|refine kD ?_|refine kA ?_ _));refine blk_put (cs:=#[.int .i64 x248000_24,.int .i64 x248001_36,.int .i64 0,.int .i64 0]) ?_ 2 _ rfl;(with_reducible repeat (first|refine kN ?_ _|refine kD ?_|refine kA ?_ _));refine blk_put (cs:=#[.int .i64 x248000_24,.int .i64 0,.int .i64 0,.int .i64 0]) ?_ 1 _ rfl;(with_reducible repeat (first|refine kN ?_ _|refine kD ?_|refine kA ?_ _));refine blk_put (cs:=#[.int .i64 0,.int .i64 0,.int .i64 0,.int .i64 0]) ?_ 0 _ rfl;(with_reducible repeat (first|refine kN ?_ _|refine kD ?_|refine kA ?_ _));refine blk_far ?_ NB249_247.out _;(with_reducible repeat (first|refine kN ?_ _|refine kD ?_|refine kA ?_ _));exact BK249.out) Try.underlying35 rfl (by kernel_rfl)) rfl ?_
          exact ⟨by first|rfl|(simp [errW_none,errW_some] <;> rfl)|(simp [*,errW_none,errW_some] <;> rfl),by repeat (first|(with_reducible first|exact HB.out|apply bA|apply bN|apply bD|refine bS ?_ GE247.out|refine bS ?_ GE248.out|refine bS ?_ GE249.out)|exact HB.out)⟩
         ·rw [if_neg c63] at H
          have c63b0 : decide (a0_3 < a1_3) = false:=decide_eq_false c63
          clear c63
          simp only [Option.some.injEq,Prod.mk.injEq] at H
          obtain ⟨rfl,rfl,rfl,rfl⟩:=H
          have hnb70:=NB248_247.out
          have hnc70:=NB247_248.out
          have hnb71:=NB248_249.out
          have hnc71:=NB249_248.out
          have hcz72_0 : wc.cell? ⟨gb248,0,none⟩ = some (.int .i64 a1_0):=(kC BK248.out 0).trans rfl
          have hcz72_1 : wc.cell? ⟨gb248,1,none⟩ = some (.int .i64 a1_1):=(kC BK248.out 1).trans rfl
          have hcz72_2 : wc.cell? ⟨gb248,2,none⟩ = some (.int .i64 a1_2):=(kC BK248.out 2).trans rfl
          have hcz72_3 : wc.cell? ⟨gb248,3,none⟩ = some (.int .i64 a1_3):=(kC BK248.out 3).trans rfl
          have hfz72_0:=blk_frozen BK248.out 0
          have hfz72_1:=blk_frozen BK248.out 1
          have hfz72_2:=blk_frozen BK248.out 2
          have hfz72_3:=blk_frozen BK248.out 3
          have hnb73:=NB247_249.out
          have hnc73:=NB249_247.out
          have hcz74_0 : wc.cell? ⟨gb247,0,none⟩ = some (.int .i64 x248000_24):=(kC BK247.out 0).trans rfl
          have hcz74_1 : wc.cell? ⟨gb247,1,none⟩ = some (.int .i64 x248001_36):=(kC BK247.out 1).trans rfl
          have hcz74_2 : wc.cell? ⟨gb247,2,none⟩ = some (.int .i64 a0_2):=(kC BK247.out 2).trans rfl
          have hcz74_3 : wc.cell? ⟨gb247,3,none⟩ = some (.int .i64 a0_3):=(kC BK247.out 3).trans rfl
          have hfz74_0:=blk_frozen BK247.out 0
          have hfz74_1:=blk_frozen BK247.out 1
          have hfz74_2:=blk_frozen BK247.out 2
          have hfz74_3:=blk_frozen BK247.out 3
          have hcz75_0 : wc.cell? ⟨gb249,0,none⟩ = some (.int .i64 0):=(kC BK249.out 0).trans rfl
          have hcz75_1 : wc.cell? ⟨gb249,1,none⟩ = some (.int .i64 0):=(kC BK249.out 1).trans rfl
          have hcz75_2 : wc.cell? ⟨gb249,2,none⟩ = some (.int .i64 0):=(kC BK249.out 2).trans rfl
          have hcz75_3 : wc.cell? ⟨gb249,3,none⟩ = some (.int .i64 0):=(kC BK249.out 3).trans rfl
          have hfz75_0:=blk_frozen BK249.out 0
          have hfz75_1:=blk_frozen BK249.out 1
          have hfz75_2:=blk_frozen BK249.out 2
          have hfz75_3:=blk_frozen BK249.out 3
          go_wp2
          refine bodyPost_ret (results_cell_row rfl _ _ gb249 35 #[.int .i64 x248000_24,.int .i64 x248001_36,.int .i64 a0_2,.int .i64 a0_3] (0,0) _ rfl (by (with_reducible repeat (first|refine kN ?_ _|refine kD ?_|refine kA ?_ _));refine blk_put (cs:=#[.int .i64 x248000_24,.int .i64 x248001_36,.int .i64 a0_2,.int .i64 0]) ?_ 3 _ rfl;(with_reducible repeat (first|refine kN ?_ _|refine kD ?_|refine kA ?_ _));refine blk_put (cs:=#[.int .i64 x248000_24,.int .i64 x248001_36,.int .i64 0,.int .i64 0]) ?_ 2 _ rfl;(with_reducible repeat (first|refine kN ?_ _|refine kD ?_|refine kA ?_ _));refine blk_put (cs:=#[.int .i64 x248000_24,.int .i64 0,.int .i64 0,.int .i64 0]) ?_ 1 _ rfl;(with_reducible repeat (first|refine kN ?_ _|refine kD ?_|refine kA ?_ _));refine blk_put (cs:=#[.int .i64 0,.int .i64 0,.int .i64 0,.int .i64 0]) ?_ 0 _ rfl;(with_reducible repeat (first|refine kN ?_ _|refine kD ?_|refine kA ?_ _));exact BK249.out) Try.underlying35 rfl (by kernel_rfl)) rfl ?_
          exact ⟨by first|rfl|(simp [errW_none,errW_some] <;> rfl)|(simp [*,errW_none,errW_some] <;> rfl),by repeat (first|(with_reducible first|exact HB.out|apply bA|apply bN|apply bD|refine bS ?_ GE247.out|refine bS ?_ GE248.out|refine bS ?_ GE249.out)|exact HB.out)⟩
end Go.Proofs.Ythlhmijgbjcloaa.A
end
section
namespace Go.Proofs.Ythlhmijgbjcloaa.A
open Go.RowKit Go.Proofs.YthlhmijgbjcloaaW.PrintWords Go.Proofs.YthlhmijgbjcloaaW.PrintLast Go.Proofs.YthlhmijgbjcloaaW.PrintMore
attribute [local go_sem] max2_int min2_int max_two min_two max_three min_three max_four min_four   -- for this text's walks alone
def gazetteerref09_Grows.j0 : Nat → Bool → Int → Int → Int → Int → Int → Int → Int → Int → Option (Int × Int × Int × Int)
  | 0, _, _, _, _, _, _, _, _, _ => none
  | k + 1, x18, x253000, x253001, x253002, x253003, x254000, x254001, x254002, x254003 => if x18 = true then (some (0, 0, 0, 0)) else ((gazetteerref09_Union.f k x253000 x253001 x253002 x253003 x254000 x254001 x254002 x254003).bind fun bt258 => ((gazetteerref07_Area.f bt258.1 bt258.2.1 bt258.2.2.1 bt258.2.2.2).bind fun bt263 => ((gazetteerref07_Area.f x253000 x253001 x253002 x253003).bind fun bt265 => ((gazetteerref07_Sub.f bt263.1 bt263.2 bt265.1 bt265.2).bind fun bt267 => ((gazetteerref07_Margin.f bt258.1 bt258.2.1 bt258.2.2.1 bt258.2.2.2).bind fun bt271 => ((gazetteerref07_Margin.f x253000 x253001 x253002 x253003).bind fun bt273 => ((gazetteerref07_Sub.f bt271.1 bt271.2 bt273.1 bt273.2).bind fun bt275 => (some (bt267.1, bt267.2.1, bt275.1, bt275.2.1)))))))))
def gazetteerref09_Grows.f (k : Nat) (a0_0 : Int) (a0_1 : Int) (a0_2 : Int) (a0_3 : Int) (a1_0 : Int) (a1_1 : Int) (a1_2 : Int) (a1_3 : Int) : Option (Int × Int × Int × Int) := (gazetteerref09_Box.f a0_0 a0_1 a0_2 a0_3).bind fun t256 => (if t256 = true then ((gazetteerref09_Box.f a1_0 a1_1 a1_2 a1_3).bind fun t257 => (gazetteerref09_Grows.j0 k (!t257) a0_0 a0_1 a0_2 a0_3 a1_0 a1_1 a1_2 a1_3)) else (gazetteerref09_Grows.j0 k true a0_0 a0_1 a0_2 a0_3 a1_0 a1_1 a1_2 a1_3))
def gazetteerref09_Grows.T4 : Bool × List (List Nat × List Nat) := (true, [([], []), ([0], [0]), ([], []), ([2, 1], [2]), ([1, 3, 3], [1, 3]), ([4], [4]), ([5], [5]), ([5], [5]), ([], []), ([8, 6, 4, 0, 1, 2, 3, 4, 5, 6, 8], [6, 8]), ([7, 9, 0, 1, 2, 3, 4, 5, 6, 7, 8, 9], [7])])
def gazetteerref09_Grows.B4 : List Nat := [0, 1, 0, 7, 15, 31, 63, 63, 0, 383, 1023]
theorem gazetteerref09_Grows.tab4 : rtab .any (opsOf Try.f37 4) = gazetteerref09_Grows.T4 := by kernel_rfl
theorem gazetteerref09_Grows.bits4 : waitsOk gazetteerref09_Grows.T4.2 gazetteerref09_Grows.B4 = true := by kernel_rfl
def gazetteerref09_Grows.T5 : Bool × List (List Nat × List Nat) := (true, [([], []), ([0], [0]), ([], []), ([2, 1], [2]), ([1, 3, 3], [1, 3]), ([4], [4]), ([5], [5]), ([5], [5]), ([], []), ([8, 6, 4, 0, 1, 2, 3, 4, 5, 6, 8], [6, 8]), ([7, 9, 0, 1, 2, 3, 4, 5, 6, 7, 8, 9], [7])])
def gazetteerref09_Grows.B5 : List Nat := [0, 1, 0, 7, 15, 31, 63, 63, 0, 383, 1023]
theorem gazetteerref09_Grows.tab5 : rtab .any (opsOf Try.f37 5) = gazetteerref09_Grows.T5 := by kernel_rfl
theorem gazetteerref09_Grows.bits5 : waitsOk gazetteerref09_Grows.T5.2 gazetteerref09_Grows.B5 = true := by kernel_rfl
set_option maxHeartbeats 8000000 in
set_option maxRecDepth 100000 in
theorem gazetteerref09_Grows.calls (k : Nat) (a0_0 : Int) (a0_1 : Int) (a0_2 : Int) (a0_3 : Int) (a1_0 : Int) (a1_1 : Int) (a1_2 : Int) (a1_3 : Int) (r1 : Int) (r2 : Int) (r3 : Int) (r4 : Int) (w : World) (h : gazetteerref09_Grows.f k a0_0 a0_1 a0_2 a0_3 a1_0 a1_1 a1_2 a1_3 = some (r1,r2,r3,r4)) :
  Calls Try.prog 37 #[.agg #[.int .i64 a0_0,.int .i64 a0_1,.int .i64 a0_2,.int .i64 a0_3],.agg #[.int .i64 a1_0,.int .i64 a1_1,.int .i64 a1_2,.int .i64 a1_3]] w fun e w' => e = .returned (.tuple #[.agg #[.int .u64 r1,.int .u64 r2],.agg #[.int .u64 r3,.int .u64 r4]])∧Below w.heap.size w w':=by
 have hu35:=Try.underlying35
 have hu25:=Try.underlying25
 have HB:=Ak (Below.refl w.heap.size w)
 have H : ((gazetteerref09_Box.f a0_0 a0_1 a0_2 a0_3).bind fun t256 => (if t256 = true then ((gazetteerref09_Box.f a1_0 a1_1 a1_2 a1_3).bind fun t257 => (gazetteerref09_Grows.j0 k (!t257) a0_0 a0_1 a0_2 a0_3 a1_0 a1_1 a1_2 a1_3)) else (gazetteerref09_Grows.j0 k true a0_0 a0_1 a0_2 a0_3 a1_0 a1_1 a1_2 a1_3))) = some (r1,r2,r3,r4):=h
 clear h
 have HC3:=Ak H
 clear H
 go_enter Try.func37,Try.ntmps37
 go_upto_region 1 with (first|((with_reducible refine gate_dst (N:=2) rfl ?_);refine box_event ?hg (N:=2) ?hd (cs:=#[.int .i64 a0_0,.int .i64 a0_1,.int .i64 a0_2,.int .i64 a0_3]) (t:=35) ?hr ?_;(case hd => rfl);(case hg => rfl);(case hr => first|(go_simp;done)|(go_simp;rfl));intro gb252 hg w4 hbox hb;have n0_:=Kh HB hb;have n1_:=Ak (hbox);have n2_:=Kz hg HB;have n3_:=Kz hg HB;clear HB;have HB:=n0_;have BK252:=n1_;have GW252:=n2_;have GE252:=n3_;clear n0_ n1_ n2_ n3_;clear hb hbox hg)|((with_reducible refine gate_dst (N:=3) rfl ?_);refine box_event ?hg (N:=3) ?hd (cs:=#[.int .i64 a1_0,.int .i64 a1_1,.int .i64 a1_2,.int .i64 a1_3]) (t:=35) ?hr ?_;(case hd => rfl);(case hg => rfl);(case hr => first|(go_simp;done)|(go_simp;rfl));intro gb253 hg w5 hbox hb;have n0_:=Kb BK252 hb;have n1_:=Kh HB hb;have n2_:=Ak (hbox);have n3_:=Kz hg HB;have n4_:=Kz hg HB;have n5_:=Kl hg BK252;have n6_:=Km hg BK252;clear BK252 HB;have BK252:=n0_;have HB:=n1_;have BK253:=n2_;have GW253:=n3_;have GE253:=n4_;have NB252_253:=n5_;have NB253_252:=n6_;clear n0_ n1_ n2_ n3_ n4_ n5_ n6_;clear hb hbox hg)|((with_reducible refine gate_dst (N:=4) rfl ?_);refine box_event ?hg (N:=4) ?hd (cs:=#[.int .u64 0,.int .u64 0]) (t:=25) ?hr ?_;(case hd => rfl);(case hg => rfl);(case hr => first|(go_simp;done)|(go_simp;rfl));intro gb254 hg w6 hbox hb;have n0_:=Kb BK252 hb;have n1_:=Kb BK253 hb;have n2_:=Kh HB hb;have n3_:=Ak (hbox);have n4_:=Kz hg HB;have n5_:=Kz hg HB;have n6_:=Kl hg BK252;have n7_:=Km hg BK252;have n8_:=Kl hg BK253;have n9_:=Km hg BK253;clear BK252 BK253 HB;have BK252:=n0_;have BK253:=n1_;have HB:=n2_;have BK254:=n3_;have GW254:=n4_;have GE254:=n5_;have NB252_254:=n6_;have NB254_252:=n7_;have NB253_254:=n8_;have NB254_253:=n9_;clear n0_ n1_ n2_ n3_ n4_ n5_ n6_ n7_ n8_ n9_;clear hb hbox hg)|((with_reducible refine gate_dst (N:=5) rfl ?_);refine box_event ?hg (N:=5) ?hd (cs:=#[.int .u64 0,.int .u64 0]) (t:=25) ?hr ?_;(case hd => rfl);(case hg => rfl);(case hr => first|(go_simp;done)|(go_simp;rfl));intro gb255 hg w7 hbox hb;have n0_:=Kb BK252 hb;have n1_:=Kb BK253 hb;have n2_:=Kb BK254 hb;have n3_:=Kh HB hb;have n4_:=Ak (hbox);have n5_:=Kz hg HB;have n6_:=Kz hg HB;have n7_:=Kl hg BK252;have n8_:=Km hg BK252;have n9_:=Kl hg BK253;have n10_:=Km hg BK253;have n11_:=Kl hg BK254;have n12_:=Km hg BK254;clear BK252 BK253 BK254 HB;have BK252:=n0_;have BK253:=n1_;have BK254:=n2_;have HB:=n3_;have BK255:=n4_;have GW255:=n5_;have GE255:=n6_;have NB252_255:=n7_;have NB255_252:=n8_;have NB253_255:=n9_;have NB255_253:=n10_;have NB254_255:=n11_;have NB255_254:=n12_;clear n0_ n1_ n2_ n3_ n4_ n5_ n6_ n7_ n8_ n9_ n10_ n11_ n12_;clear hb hbox hg))
 (try simp only [Act.put,sA,sZ,sS])
 go_cut [18] (fun v18 wc => ∃ (kq : Nat) (x18_2 : Bool),v18 = .bool x18_2∧Aside0 (gazetteerref09_Grows.j0 kq x18_2 a0_0 a0_1 a0_2 a0_3 a1_0 a1_1 a1_2 a1_3 = some (r1,r2,r3,r4))∧Aside0 (kq ≤ k)∧Aside0 (wc.heap[gb252]? = some (.cells #[.int .i64 a0_0,.int .i64 a0_1,.int .i64 a0_2,.int .i64 a0_3] 35 (0,0)))∧Aside0 (wc.heap[gb253]? = some (.cells #[.int .i64 a1_0,.int .i64 a1_1,.int .i64 a1_2,.int .i64 a1_3] 35 (0,0)))∧Aside0 (wc.heap[gb254]? = some (.cells #[.int .u64 0,.int .u64 0] 25 (0,0)))∧Aside0 (wc.heap[gb255]? = some (.cells #[.int .u64 0,.int .u64 0] 25 (0,0)))∧Aside0 (Below w.heap.size w wc))
 case first =>
  have H:=HC3.out
  clear HC3
  replace H:=Option.bind_eq_some_iff.mp H
  obtain ⟨t256,A80,H⟩:=H
  replace H : (if t256 = true then ((gazetteerref09_Box.f a1_0 a1_1 a1_2 a1_3).bind fun t257 => (gazetteerref09_Grows.j0 k (!t257) a0_0 a0_1 a0_2 a0_3 a1_0 a1_1 a1_2 a1_3)) else (gazetteerref09_Grows.j0 k true a0_0 a0_1 a0_2 a0_3 a1_0 a1_1 a1_2 a1_3)) = some (r1,r2,r3,r4):=H
  have A8:=Ak A80
  clear A80
  by_cases c9 : t256 = true
  ·subst c9
   have H1 : ((gazetteerref09_Box.f a1_0 a1_1 a1_2 a1_3).bind fun t257 => (gazetteerref09_Grows.j0 k (!t257) a0_0 a0_1 a0_2 a0_3 a1_0 a1_1 a1_2 a1_3)) = some (r1,r2,r3,r4):=by rw [if_pos rfl] at H;exact H
   clear H
   have H:=H1
   clear H1
   replace H:=Option.bind_eq_some_iff.mp H
   obtain ⟨t257,A100,H⟩:=H
   replace H : (gazetteerref09_Grows.j0 k (!t257) a0_0 a0_1 a0_2 a0_3 a1_0 a1_1 a1_2 a1_3) = some (r1,r2,r3,r4):=H
   have A10:=Ak A100
   clear A100
   have H':=Ak H
   clear H
   have hnb11:=NB252_253.out
   have hnc11:=NB253_252.out
   have hnb12:=NB252_254.out
   have hnc12:=NB254_252.out
   have hnb13:=NB252_255.out
   have hnc13:=NB255_252.out
   have hcz14_0 : w7.cell? ⟨gb252,0,none⟩ = some (.int .i64 a0_0):=(kC BK252.out 0).trans rfl
   have hcz14_1 : w7.cell? ⟨gb252,1,none⟩ = some (.int .i64 a0_1):=(kC BK252.out 1).trans rfl
   have hcz14_2 : w7.cell? ⟨gb252,2,none⟩ = some (.int .i64 a0_2):=(kC BK252.out 2).trans rfl
   have hcz14_3 : w7.cell? ⟨gb252,3,none⟩ = some (.int .i64 a0_3):=(kC BK252.out 3).trans rfl
   have hfz14_0:=blk_frozen BK252.out 0
   have hfz14_1:=blk_frozen BK252.out 1
   have hfz14_2:=blk_frozen BK252.out 2
   have hfz14_3:=blk_frozen BK252.out 3
   go_wp2_with (first|((with_reducible refine gate_callee (f:=59) rfl ?_);refine goesL_ (some 12) rfl rfl Try.func59 (by kernel_rfl) rfl #[.agg #[.int .i64 a0_0,.int .i64 a0_1,.int .i64 a0_2,.int .i64 a0_3]] rfl (by (try simp only [List.map_toArray,List.map_cons,List.map_nil]);first|done|rfl|(simp only [List.length_drop,List.length_take];rfl)) ?_;(with_reducible refine (gazetteerref09_Box.calls a0_0 a0_1 a0_2 a0_3 true _ A8.out).mono ?_);rintro e w15 ⟨rfl,hb⟩;refine ⟨_,rfl,?_⟩;have n0_:=Kb BK252 hb;have n1_:=Kb BK253 hb;have n2_:=Kb BK254 hb;have n3_:=Kb BK255 hb;have n4_:=Kh HB hb;clear BK252 BK253 BK254 BK255 HB;have BK252:=n0_;have BK253:=n1_;have BK254:=n2_;have BK255:=n3_;have HB:=n4_;clear n0_ n1_ n2_ n3_ n4_;(try clear hb);(try clear hb2);(try clear hk);(try clear hi);have hnb16:=NB253_254.out;have hnc16:=NB254_253.out;have hnb17:=NB253_255.out;have hnc17:=NB255_253.out;have hcz18_0 : w15.cell? ⟨gb253,0,none⟩ = some (.int .i64 a1_0):=(kC BK253.out 0).trans rfl;have hcz18_1 : w15.cell? ⟨gb253,1,none⟩ = some (.int .i64 a1_1):=(kC BK253.out 1).trans rfl;have hcz18_2 : w15.cell? ⟨gb253,2,none⟩ = some (.int .i64 a1_2):=(kC BK253.out 2).trans rfl;have hcz18_3 : w15.cell? ⟨gb253,3,none⟩ = some (.int .i64 a1_3):=(kC BK253.out 3).trans rfl;have hfz18_0:=blk_frozen BK253.out 0;have hfz18_1:=blk_frozen BK253.out 1;have hfz18_2:=blk_frozen BK253.out 2;have hfz18_3:=blk_frozen BK253.out 3)|(go_at_call 59;(with_reducible refine (gazetteerref09_Box.calls a1_0 a1_1 a1_2 a1_3 t257 _ A10.out).mono ?_);rintro e w19 ⟨rfl,hb⟩;have n0_:=Kb BK252 hb;have n1_:=Kb BK253 hb;have n2_:=Kb BK254 hb;have n3_:=Kb BK255 hb;have n4_:=Kh HB hb;clear BK252 BK253 BK254 BK255 HB;have BK252:=n0_;have BK253:=n1_;have BK254:=n2_;have BK255:=n3_;have HB:=n4_;clear n0_ n1_ n2_ n3_ n4_;(try clear hb);(try clear hb2);(try clear hk);(try clear hi)))
   go_meet
   case rel => exact ⟨_,(!t257),(by first|rfl|(simp;done)|(simp [*];done)),H',⟨by first|omega|exact Nat.le_refl _⟩,⟨by (with_reducible repeat (first|refine kN ?_ _|refine kD ?_|refine kA ?_ _));exact BK252.out⟩,⟨by (with_reducible repeat (first|refine kN ?_ _|refine kD ?_|refine kA ?_ _));exact BK253.out⟩,⟨by (with_reducible repeat (first|refine kN ?_ _|refine kD ?_|refine kA ?_ _));exact BK254.out⟩,⟨by (with_reducible repeat (first|refine kN ?_ _|refine kD ?_|refine kA ?_ _));exact BK255.out⟩,⟨by repeat (first|(with_reducible first|exact HB.out|apply bA|apply bN|apply bD|refine bS ?_ GE252.out|refine bS ?_ GE253.out|refine bS ?_ GE254.out|refine bS ?_ GE255.out)|exact HB.out)⟩⟩
  ·replace c9:=Bool.eq_false_iff.mpr c9
   subst c9
   have H1 : (gazetteerref09_Grows.j0 k true a0_0 a0_1 a0_2 a0_3 a1_0 a1_1 a1_2 a1_3) = some (r1,r2,r3,r4):=by rw [if_neg (show ¬ (false = true) by decide)] at H;exact H
   clear H
   have H:=H1
   clear H1
   have H':=Ak H
   clear H
   have hnb20:=NB252_253.out
   have hnc20:=NB253_252.out
   have hnb21:=NB252_254.out
   have hnc21:=NB254_252.out
   have hnb22:=NB252_255.out
   have hnc22:=NB255_252.out
   have hcz23_0 : w7.cell? ⟨gb252,0,none⟩ = some (.int .i64 a0_0):=(kC BK252.out 0).trans rfl
   have hcz23_1 : w7.cell? ⟨gb252,1,none⟩ = some (.int .i64 a0_1):=(kC BK252.out 1).trans rfl
   have hcz23_2 : w7.cell? ⟨gb252,2,none⟩ = some (.int .i64 a0_2):=(kC BK252.out 2).trans rfl
   have hcz23_3 : w7.cell? ⟨gb252,3,none⟩ = some (.int .i64 a0_3):=(kC BK252.out 3).trans rfl
   have hfz23_0:=blk_frozen BK252.out 0
   have hfz23_1:=blk_frozen BK252.out 1
   have hfz23_2:=blk_frozen BK252.out 2
   have hfz23_3:=blk_frozen BK252.out 3
   go_wp2_with (first|((with_reducible refine gate_callee (f:=59) rfl ?_);refine goesL_ (some 12) rfl rfl Try.func59 (by kernel_rfl) rfl #[.agg #[.int .i64 a0_0,.int .i64 a0_1,.int .i64 a0_2,.int .i64 a0_3]] rfl (by (try simp only [List.map_toArray,List.map_cons,List.map_nil]);first|done|rfl|(simp only [List.length_drop,List.length_take];rfl)) ?_;(with_reducible refine (gazetteerref09_Box.calls a0_0 a0_1 a0_2 a0_3 false _ A8.out).mono ?_);rintro e w24 ⟨rfl,hb⟩;refine ⟨_,rfl,?_⟩;have n0_:=Kb BK252 hb;have n1_:=Kb BK253 hb;have n2_:=Kb BK254 hb;have n3_:=Kb BK255 hb;have n4_:=Kh HB hb;clear BK252 BK253 BK254 BK255 HB;have BK252:=n0_;have BK253:=n1_;have BK254:=n2_;have BK255:=n3_;have HB:=n4_;clear n0_ n1_ n2_ n3_ n4_;(try clear hb);(try clear hb2);(try clear hk);(try clear hi)))
   go_meet
   case rel => exact ⟨_,(true),(by first|rfl|(simp;done)|(simp [*];done)),H',⟨by first|omega|exact Nat.le_refl _⟩,⟨by (with_reducible repeat (first|refine kN ?_ _|refine kD ?_|refine kA ?_ _));exact BK252.out⟩,⟨by (with_reducible repeat (first|refine kN ?_ _|refine kD ?_|refine kA ?_ _));exact BK253.out⟩,⟨by (with_reducible repeat (first|refine kN ?_ _|refine kD ?_|refine kA ?_ _));exact BK254.out⟩,⟨by (with_reducible repeat (first|refine kN ?_ _|refine kD ?_|refine kA ?_ _));exact BK255.out⟩,⟨by repeat (first|(with_reducible first|exact HB.out|apply bA|apply bN|apply bD|refine bS ?_ GE252.out|refine bS ?_ GE253.out|refine bS ?_ GE254.out|refine bS ?_ GE255.out)|exact HB.out)⟩⟩
 case rest =>
  clear HC3
  try clear c1
  try clear c2
  try clear p2
  try clear c3
  try clear c5
  try clear c9
  try clear c11
  try clear c12
  try clear c13
  try clear c16
  try clear c17
  try clear c20
  try clear c21
  try clear c22
  try clear hcz14_0
  try clear hcz14_1
  try clear hcz14_2
  try clear hcz14_3
  try clear hcz18_0
  try clear hcz18_1
  try clear hcz18_2
  try clear hcz18_3
  try clear hcz23_0
  try clear hcz23_1
  try clear hcz23_2
  try clear hcz23_3
  try clear hfz14_0
  try clear hfz14_1
  try clear hfz14_2
  try clear hfz14_3
  try clear hfz18_0
  try clear hfz18_1
  try clear hfz18_2
  try clear hfz18_3
  try clear hfz23_0
  try clear hfz23_1
  try clear hfz23_2
  try clear hfz23_3
  obtain ⟨kq,x18_2,rfl,HA,HJ2,BK252,BK253,BK254,BK255,HB⟩:=hcut
  cases kq with
  | zero => exact absurd HA.out (by simp [gazetteerref09_Grows.j0])
  | succ kj2 =>
   have H:=HA.out
   clear HA
   simp only [gazetteerref09_Grows.j0] at H
   by_cases c25 : x18_2 = true
   ·subst c25
    have H1 : (some (0,0,0,0)) = some (r1,r2,r3,r4):=by rw [if_pos rfl] at H;exact H
    clear H
    have H:=H1
    clear H1
    simp only [Option.some.injEq,Prod.mk.injEq] at H
    obtain ⟨rfl,rfl,rfl,rfl⟩:=H
    have hnb26:=NB254_252.out
    have hnc26:=NB252_254.out
    have hnb27:=NB254_253.out
    have hnc27:=NB253_254.out
    have hnb28:=NB254_255.out
    have hnc28:=NB255_254.out
    have hcz29_0 : wc.cell? ⟨gb254,0,none⟩ = some (.int .u64 0):=(kC BK254.out 0).trans rfl
    have hcz29_1 : wc.cell? ⟨gb254,1,none⟩ = some (.int .u64 0):=(kC BK254.out 1).trans rfl
    have hfz29_0:=blk_frozen BK254.out 0
    have hfz29_1:=blk_frozen BK254.out 1
    have hnb30:=NB255_252.out
    have hnc30:=NB252_255.out
    have hnb31:=NB255_253.out
    have hnc31:=NB253_255.out
    have hcz32_0 : wc.cell? ⟨gb255,0,none⟩ = some (.int .u64 0):=(kC BK255.out 0).trans rfl
    have hcz32_1 : wc.cell? ⟨gb255,1,none⟩ = some (.int .u64 0):=(kC BK255.out 1).trans rfl
    have hfz32_0:=blk_frozen BK255.out 0
    have hfz32_1:=blk_frozen BK255.out 1
    go_wp2
    refine bodyPost_ret (results_cc rfl _ _ gb254 gb255 25 25 #[.int .u64 0,.int .u64 0] #[.int .u64 0,.int .u64 0] (0,0) (0,0) _ _ rfl (by (with_reducible repeat (first|refine kN ?_ _|refine kD ?_|refine kA ?_ _));refine blk_far ?_ NB254_255.out _;(with_reducible repeat (first|refine kN ?_ _|refine kD ?_|refine kA ?_ _));refine blk_far ?_ NB254_255.out _;(with_reducible repeat (first|refine kN ?_ _|refine kD ?_|refine kA ?_ _));refine blk_put (cs:=#[.int .u64 0,.int .u64 0]) ?_ 1 _ rfl;(with_reducible repeat (first|refine kN ?_ _|refine kD ?_|refine kA ?_ _));refine blk_put (cs:=#[.int .u64 0,.int .u64 0]) ?_ 0 _ rfl;(with_reducible repeat (first|refine kN ?_ _|refine kD ?_|refine kA ?_ _));exact BK254.out) Try.underlying25 rfl (by kernel_rfl) rfl (by (with_reducible repeat (first|refine kN ?_ _|refine kD ?_|refine kA ?_ _));refine blk_put (cs:=#[.int .u64 0,.int .u64 0]) ?_ 1 _ rfl;(with_reducible repeat (first|refine kN ?_ _|refine kD ?_|refine kA ?_ _));refine blk_put (cs:=#[.int .u64 0,.int .u64 0]) ?_ 0 _ rfl;(with_reducible repeat (first|refine kN ?_ _|refine kD ?_|refine kA ?_ _));refine blk_far ?_ NB255_254.out _;(with_reducible repeat (first|refine kN ?_ _|refine kD ?_|refine kA ?_ _));refine blk_far ?_ NB255_254.out _;(with_reducible repeat (first|refine kN ?_ _|refine kD ?_|refine kA ?_ _));exact BK255.out) Try.underlying25 rfl (by kernel_rfl)) rfl ?_
    exact ⟨by first|rfl|(simp [errW_none,errW_some] <;> rfl)|(simp [*,errW_none,errW_some] <;> rfl),by repeat (first|(with_reducible first|exact HB.out|apply bA|apply bN|apply bD|refine bS ?_ GE252.out|refine bS ?_ GE253.out|refine bS ?_ GE254.out|refine bS ?_ GE255.out)|exact HB.out)⟩
   ·replace c25:=Bool.eq_false_iff.mpr c25
    subst c25
    have H1 : ((gazetteerref09_Union.f kj2 a0_0 a0_1 a0_2 a0_3 a1_0 a1_1 a1_2 a1_3).bind fun bt258 => ((gazetteerref07_Area.f bt258.1 bt258.2.1 bt258.2.2.1 bt258.2.2.2).bind fun bt263 => ((gazetteerref07_Area.f a0_0 a0_1 a0_2 a0_3).bind fun bt265 => ((gazetteerref07_Sub.f bt263.1 bt263.2 bt265.1 bt265.2).bind fun bt267 => ((gazetteerref07_Margin.f bt258.1 bt258.2.1 bt258.2.2.1 bt258.2.2.2).bind fun bt271 => ((gazetteerref07_Margin.f a0_0 a0_1 a0_2 a0_3).bind fun bt273 => ((gazetteerref07_Sub.f bt271.1 bt271.2 bt273.1 bt273.2).bind fun bt275 => (some (bt267.1,bt267.2.1,bt275.1,bt275.2.1))))))))) = some (r1,r2,r3,r4):=by rw [if_neg (show ¬ (false = true) by decide)] at H;exact H
    clear H
    have H:=H1
    clear H1
    replace H:=Option.bind_eq_some_iff.mp H
    obtain ⟨⟨t258,t259,t260,t261⟩,A330,H⟩:=H
    replace H : ((gazetteerref07_Area.f t258 t259 t260 t261).bind fun bt263 => ((gazetteerref07_Area.f a0_0 a0_1 a0_2 a0_3).bind fun bt265 => ((gazetteerref07_Sub.f bt263.1 bt263.2 bt265.1 bt265.2).bind fun bt267 => ((gazetteerref07_Margin.f t258 t259 t260 t261).bind fun bt271 => ((gazetteerref07_Margin.f a0_0 a0_1 a0_2 a0_3).bind fun bt273 => ((gazetteerref07_Sub.f bt271.1 bt271.2 bt273.1 bt273.2).bind fun bt275 => (some (bt267.1,bt267.2.1,bt275.1,bt275.2.1)))))))) = some (r1,r2,r3,r4):=H
    have A33:=Ak A330
    clear A330
    replace H:=Option.bind_eq_some_iff.mp H
    obtain ⟨⟨t263,t264⟩,A340,H⟩:=H
    replace H : ((gazetteerref07_Area.f a0_0 a0_1 a0_2 a0_3).bind fun bt265 => ((gazetteerref07_Sub.f t263 t264 bt265.1 bt265.2).bind fun bt267 => ((gazetteerref07_Margin.f t258 t259 t260 t261).bind fun bt271 => ((gazetteerref07_Margin.f a0_0 a0_1 a0_2 a0_3).bind fun bt273 => ((gazetteerref07_Sub.f bt271.1 bt271.2 bt273.1 bt273.2).bind fun bt275 => (some (bt267.1,bt267.2.1,bt275.1,bt275.2.1))))))) = some (r1,r2,r3,r4):=H
    have A34:=Ak A340
    clear A340
    replace H:=Option.bind_eq_some_iff.mp H
    obtain ⟨⟨t265,t266⟩,A350,H⟩:=H
    replace H : ((gazetteerref07_Sub.f t263 t264 t265 t266).bind fun bt267 => ((gazetteerref07_Margin.f t258 t259 t260 t261).bind fun bt271 => ((gazetteerref07_Margin.f a0_0 a0_1 a0_2 a0_3).bind fun bt273 => ((gazetteerref07_Sub.f bt271.1 bt271.2 bt273.1 bt273.2).bind fun bt275 => (some (bt267.1,bt267.2.1,bt275.1,bt275.2.1)))))) = some (r1,r2,r3,r4):=H
    have A35:=Ak A350
    clear A350
    replace H:=Option.bind_eq_some_iff.mp H
    obtain ⟨⟨t267,t268,t269⟩,A360,H⟩:=H
    replace H : ((gazetteerref07_Margin.f t258 t259 t260 t261).bind fun bt271 => ((gazetteerref07_Margin.f a0_0 a0_1 a0_2 a0_3).bind fun bt273 => ((gazetteerref07_Sub.f bt271.1 bt271.2 bt273.1 bt273.2).bind fun bt275 => (some (t267,t268,bt275.1,bt275.2.1))))) = some (r1,r2,r3,r4):=H
    have A36:=Ak A360
    clear A360
    replace H:=Option.bind_eq_some_iff.mp H
    obtain ⟨⟨t271,t272⟩,A370,H⟩:=H
    replace H : ((gazetteerref07_Margin.f a0_0 a0_1 a0_2 a0_3).bind fun bt273 => ((gazetteerref07_Sub.f t271 t272 bt273.1 bt273.2).bind fun bt275 => (some (t267,t268,bt275.1,bt275.2.1)))) = some (r1,r2,r3,r4):=H
    have A37:=Ak A370
    clear A370
    replace H:=Option.bind_eq_some_iff.mp H
    obtain ⟨⟨t273,t274⟩,A380,H⟩:=H
    replace H : ((gazetteerref07_Sub.f t271 t272 t273 t274).bind fun bt275 => (some (t267,t268,bt275.1,bt275.2.1))) = some (r1,r2,r3,r4):=H
    have A38:=Ak A380
    clear A380
    replace H:=Option.bind_eq_some_iff.mp H
    obtain ⟨⟨t275,t276,t277⟩,A390,H⟩:=H
    replace H : (some (t267,t268,t275,t276)) = some (r1,r2,r3,r4):=H
    have A39:=Ak A390
    clear A390
    simp only [Option.some.injEq,Prod.mk.injEq] at H
    obtain ⟨rfl,rfl,rfl,rfl⟩:=H
    have hnb40:=NB252_253.out
    have hnc40:=NB253_252.out
    have hnb41:=NB252_254.out
    have hnc41:=NB254_252.out
    have hnb42:=NB252_255.out
    have hnc42:=NB255_252.out
    have hcz43_0 : wc.cell? ⟨gb252,0,none⟩ = some (.int .i64 a0_0):=(kC BK252.out 0).trans rfl
    have hcz43_1 : wc.cell? ⟨gb252,1,none⟩ = some (.int .i64 a0_1):=(kC BK252.out 1).trans rfl
    have hcz43_2 : wc.cell? ⟨gb252,2,none⟩ = some (.int .i64 a0_2):=(kC BK252.out 2).trans rfl
    have hcz43_3 : wc.cell? ⟨gb252,3,none⟩ = some (.int .i64 a0_3):=(kC BK252.out 3).trans rfl
    have hfz43_0:=blk_frozen BK252.out 0
    have hfz43_1:=blk_frozen BK252.out 1
    have hfz43_2:=blk_frozen BK252.out 2
    have hfz43_3:=blk_frozen BK252.out 3
    have hnb44:=NB253_254.out
    have hnc44:=NB254_253.out
    have hnb45:=NB253_255.out
    have hnc45:=NB255_253.out
    have hcz46_0 : wc.cell? ⟨gb253,0,none⟩ = some (.int .i64 a1_0):=(kC BK253.out 0).trans rfl
    have hcz46_1 : wc.cell? ⟨gb253,1,none⟩ = some (.int .i64 a1_1):=(kC BK253.out 1).trans rfl
    have hcz46_2 : wc.cell? ⟨gb253,2,none⟩ = some (.int .i64 a1_2):=(kC BK253.out 2).trans rfl
    have hcz46_3 : wc.cell? ⟨gb253,3,none⟩ = some (.int .i64 a1_3):=(kC BK253.out 3).trans rfl
    have hfz46_0:=blk_frozen BK253.out 0
    have hfz46_1:=blk_frozen BK253.out 1
    have hfz46_2:=blk_frozen BK253.out 2
    have hfz46_3:=blk_frozen BK253.out 3
    try go_wp2_with (first|((with_reducible refine gate_callee (f:=46) rfl ?_);refine goesL_ (some 23) rfl rfl Try.func46 (by kernel_rfl) rfl #[.agg #[.int .i64 a0_0,.int .i64 a0_1,.int .i64 a0_2,.int .i64 a0_3],.agg #[.int .i64 a1_0,.int .i64 a1_1,.int .i64 a1_2,.int .i64 a1_3]] rfl (by (try simp only [List.map_toArray,List.map_cons,List.map_nil]);first|done|rfl|(simp only [List.length_drop,List.length_take];rfl)) ?_;(with_reducible refine (gazetteerref09_Union.calls kj2 a0_0 a0_1 a0_2 a0_3 a1_0 a1_1 a1_2 a1_3 t258 t259 t260 t261 _ A33.out).mono ?_);rintro e w47 ⟨rfl,hb⟩;refine ⟨_,rfl,?_⟩;have n0_:=Kb BK252 hb;have n1_:=Kb BK253 hb;have n2_:=Kb BK254 hb;have n3_:=Kb BK255 hb;have n4_:=Kh HB hb;clear BK252 BK253 BK254 BK255 HB;have BK252:=n0_;have BK253:=n1_;have BK254:=n2_;have BK255:=n3_;have HB:=n4_;clear n0_ n1_ n2_ n3_ n4_;(try clear hb);(try clear hb2);(try clear hk);(try clear hi))|((with_reducible refine gate_dst (N:=6) rfl ?_);refine box_event ?hg (N:=6) ?hd (cs:=#[.int .i64 0,.int .i64 0,.int .i64 0,.int .i64 0]) (t:=35) ?hr ?_;(case hd => rfl);(case hg => rfl);(case hr => first|(go_simp;done)|(go_simp;rfl));intro gb262 hg w48 hbox hb;have n0_:=Kb BK252 hb;have n1_:=Kb BK253 hb;have n2_:=Kb BK254 hb;have n3_:=Kb BK255 hb;have n4_:=Kh HB hb;have n5_:=Ak (hbox);have n6_:=Kz hg HB;have n7_:=Kz hg HB;have n8_:=Kl hg BK252;have n9_:=Km hg BK252;have n10_:=Kl hg BK253;have n11_:=Km hg BK253;have n12_:=Kl hg BK254;have n13_:=Km hg BK254;have n14_:=Kl hg BK255;have n15_:=Km hg BK255;clear BK252 BK253 BK254 BK255 HB;have BK252:=n0_;have BK253:=n1_;have BK254:=n2_;have BK255:=n3_;have HB:=n4_;have BK262:=n5_;have GW262:=n6_;have GE262:=n7_;have NB252_262:=n8_;have NB262_252:=n9_;have NB253_262:=n10_;have NB262_253:=n11_;have NB254_262:=n12_;have NB262_254:=n13_;have NB255_262:=n14_;have NB262_255:=n15_;clear n0_ n1_ n2_ n3_ n4_ n5_ n6_ n7_ n8_ n9_ n10_ n11_ n12_ n13_ n14_ n15_;clear hb hbox hg;have hnb49:=NB262_252.out;have hnc49:=NB252_262.out;have hnb50:=NB262_253.out;have hnc50:=NB253_262.out;have hnb51:=NB262_254.out;have hnc51:=NB254_262.out;have hnb52:=NB262_255.out;have hnc52:=NB255_262.out;have hcz53_0 : w48.cell? ⟨gb262,0,none⟩ = some (.int .i64 0):=(kC BK262.out 0).trans rfl;have hcz53_1 : w48.cell? ⟨gb262,1,none⟩ = some (.int .i64 0):=(kC BK262.out 1).trans rfl;have hcz53_2 : w48.cell? ⟨gb262,2,none⟩ = some (.int .i64 0):=(kC BK262.out 2).trans rfl;have hcz53_3 : w48.cell? ⟨gb262,3,none⟩ = some (.int .i64 0):=(kC BK262.out 3).trans rfl;have hfz53_0:=blk_frozen BK262.out 0;have hfz53_1:=blk_frozen BK262.out 1;have hfz53_2:=blk_frozen BK262.out 2;have hfz53_3:=blk_frozen BK262.out 3))
    have n0_ : Aside0 (((((w48.setCell ⟨gb262,0,none⟩ (.int .i64 t258)).setCell ⟨gb262,1,none⟩ (.int .i64 t259)).setCell ⟨gb262,2,none⟩ (.int .i64 t260)).setCell ⟨gb262,3,none⟩ (.int .i64 t261)).heap[gb252]? = some (.cells #[.int .i64 a0_0,.int .i64 a0_1,.int .i64 a0_2,.int .i64 a0_3] 35 (0,0))):=⟨by (with_reducible repeat (first|refine kN ?_ _|refine kD ?_|refine kA ?_ _));refine blk_far ?_ NB252_262.out _;(with_reducible repeat (first|refine kN ?_ _|refine kD ?_|refine kA ?_ _));refine blk_far ?_ NB252_262.out _;(with_reducible repeat (first|refine kN ?_ _|refine kD ?_|refine kA ?_ _));refine blk_far ?_ NB252_262.out _;(with_reducible repeat (first|refine kN ?_ _|refine kD ?_|refine kA ?_ _));refine blk_far ?_ NB252_262.out _;(with_reducible repeat (first|refine kN ?_ _|refine kD ?_|refine kA ?_ _));exact BK252.out⟩
    have n1_ : Aside0 (((((w48.setCell ⟨gb262,0,none⟩ (.int .i64 t258)).setCell ⟨gb262,1,none⟩ (.int .i64 t259)).setCell ⟨gb262,2,none⟩ (.int .i64 t260)).setCell ⟨gb262,3,none⟩ (.int .i64 t261)).heap[gb253]? = some (.cells #[.int .i64 a1_0,.int .i64 a1_1,.int .i64 a1_2,.int .i64 a1_3] 35 (0,0))):=⟨by (with_reducible repeat (first|refine kN ?_ _|refine kD ?_|refine kA ?_ _));refine blk_far ?_ NB253_262.out _;(with_reducible repeat (first|refine kN ?_ _|refine kD ?_|refine kA ?_ _));refine blk_far ?_ NB253_262.out _;(with_reducible repeat (first|refine kN ?_ _|refine kD ?_|refine kA ?_ _));refine blk_far ?_ NB253_262.out _;(with_reducible repeat (first|refine kN ?_ _|refine kD ?_|refine kA ?_ _));refine blk_far ?_ NB253_262.out _;(with_reducible repeat (first|refine kN ?_ _|refine kD ?_|refine kA ?_ _));exact BK253.out⟩
    have n2_ : Aside0 (((((w48.setCell ⟨gb262,0,none⟩ (.int .i64 t258)).setCell ⟨gb262,1,none⟩ (.int .i64 t259)).setCell ⟨gb262,2,none⟩ (.int .i64 t260)).setCell ⟨gb262,3,none⟩ (.int .i64 t261)).heap[gb254]? = some (.cells #[.int .u64 0,.int .u64 0] 25 (0,0))):=⟨by (with_reducible repeat (first|refine kN ?_ _|refine kD ?_|refine kA ?_ _));refine blk_far ?_ NB254_262.out _;(with_reducible repeat (first|refine kN ?_ _|refine kD ?_|refine kA ?_ _));refine blk_far ?_ NB254_262.out _;(with_reducible repeat (first|refine kN ?_ _|refine kD ?_|refine kA ?_ _));refine blk_far ?_ NB254_262.out _;(with_reducible repeat (first|refine kN ?_ _|refine kD ?_|refine kA ?_ _));refine blk_far ?_ NB254_262.out _;(with_reducible repeat (first|refine kN ?_ _|refine kD ?_|refine kA ?_ _));exact BK254.out⟩
    have n3_ : Aside0 (((((w48.setCell ⟨gb262,0,none⟩ (.int .i64 t258)).setCell ⟨gb262,1,none⟩ (.int .i64 t259)).setCell ⟨gb262,2,none⟩ (.int .i64 t260)).setCell ⟨gb262,3,none⟩ (.int .i64 t261)).heap[gb255]? = some (.cells #[.int .u64 0,.int .u64 0] 25 (0,0))):=⟨by (with_reducible repeat (first|refine kN ?_ _|refine kD ?_|refine kA ?_ _));refine blk_far ?_ NB255_262.out _;(with_reducible repeat (first|refine kN ?_ _|refine kD ?_|refine kA ?_ _));refine blk_far ?_ NB255_262.out _;(with_reducible repeat (first|refine kN ?_ _|refine kD ?_|refine kA ?_ _));refine blk_far ?_ NB255_262.out _;(with_reducible repeat (first|refine kN ?_ _|refine kD ?_|refine kA ?_ _));refine blk_far ?_ NB255_262.out _;(with_reducible repeat (first|refine kN ?_ _|refine kD ?_|refine kA ?_ _));exact BK255.out⟩
    have n4_ : Aside0 (((((w48.setCell ⟨gb262,0,none⟩ (.int .i64 t258)).setCell ⟨gb262,1,none⟩ (.int .i64 t259)).setCell ⟨gb262,2,none⟩ (.int .i64 t260)).setCell ⟨gb262,3,none⟩ (.int .i64 t261)).heap[gb262]? = some (.cells #[.int .i64 t258,.int .i64 t259,.int .i64 t260,.int .i64 t261] 35 (0,0))):=⟨by (with_reducible repeat (first|refine kN ?_ _|refine kD ?_|refine kA ?_ _));refine blk_put (cs:=#[.int .i64 t258,.int .i64 t259,.int .i64 t260,.int .i64 0]) ?_ 3 _ rfl;(with_reducible repeat (first|refine kN ?_ _|refine kD ?_|refine kA ?_ _));refine blk_put (cs:=#[.int .i64 t258,.int .i64 t259,.int .i64 0,.int .i64 0]) ?_ 2 _ rfl;(with_reducible repeat (first|refine kN ?_ _|refine kD ?_|refine kA ?_ _));refine blk_put (cs:=#[.int .i64 t258,.int .i64 0,.int .i64 0,.int .i64 0]) ?_ 1 _ rfl;(with_reducible repeat (first|refine kN ?_ _|refine kD ?_|refine kA ?_ _));refine blk_put (cs:=#[.int .i64 0,.int .i64 0,.int .i64 0,.int .i64 0]) ?_ 0 _ rfl;(with_reducible repeat (first|refine kN ?_ _|refine kD ?_|refine kA ?_ _));exact BK262.out⟩
    have n5_ : Aside0 (Below w.heap.size w ((((w48.setCell ⟨gb262,0,none⟩ (.int .i64 t258)).setCell ⟨gb262,1,none⟩ (.int .i64 t259)).setCell ⟨gb262,2,none⟩ (.int .i64 t260)).setCell ⟨gb262,3,none⟩ (.int .i64 t261))):=⟨by repeat (first|(with_reducible first|exact HB.out|apply bA|apply bN|apply bD|refine bS ?_ GE252.out|refine bS ?_ GE253.out|refine bS ?_ GE254.out|refine bS ?_ GE255.out|refine bS ?_ GE262.out)|exact HB.out)⟩
    (try clear BK252)
    (try clear BK253)
    (try clear BK254)
    (try clear BK255)
    (try clear BK262)
    (try clear HB)
    generalize ((((w48.setCell ⟨gb262,0,none⟩ (.int .i64 t258)).setCell ⟨gb262,1,none⟩ (.int .i64 t259)).setCell ⟨gb262,2,none⟩ (.int .i64 t260)).setCell ⟨gb262,3,none⟩ (.int .i64 t261)) = w54 at n0_ n1_ n2_ n3_ n4_ n5_ ⊢
    have BK252:=n0_;have BK253:=n1_;have BK254:=n2_;have BK255:=n3_;have BK262:=n4_;have HB:=n5_
    clear n0_ n1_ n2_ n3_ n4_ n5_
    have n0_:=Ak (kD BK252.out)
    have n1_:=Ak (kD BK253.out)
    have n2_:=Ak (kD BK254.out)
    have n3_:=Ak (kD BK255.out)
    have n4_:=Ak (kD BK262.out)
    have n5_:=Ak (bD HB.out)
    clear BK252 BK253 BK254 BK255 BK262 HB
    have BK252:=n0_;have BK253:=n1_;have BK254:=n2_;have BK255:=n3_;have BK262:=n4_;have HB:=n5_
    clear n0_ n1_ n2_ n3_ n4_ n5_
    refine start_ (n:=11) (S:=fun w' => w'.cell? ⟨gb262,0,none⟩ = some (.int .i64 t258)∧w'.cell? ⟨gb262,1,none⟩ = some (.int .i64 t259)∧w'.cell? ⟨gb262,2,none⟩ = some (.int .i64 t260)∧w'.cell? ⟨gb262,3,none⟩ = some (.int .i64 t261)∧w'.cell? ⟨gb252,0,none⟩ = some (.int .i64 a0_0)∧w'.cell? ⟨gb252,1,none⟩ = some (.int .i64 a0_1)∧w'.cell? ⟨gb252,2,none⟩ = some (.int .i64 a0_2)∧w'.cell? ⟨gb252,3,none⟩ = some (.int .i64 a0_3)) (ds:=[]) #[ff,ff,ff,ff,ff,ff,ff,ff,ff,ff,ff] (by kernel_rfl) rfl rfl ⟨(kC BK262.out 0).trans rfl,(kC BK262.out 1).trans rfl,(kC BK262.out 2).trans rfl,(kC BK262.out 3).trans rfl,(kC BK252.out 0).trans rfl,(kC BK252.out 1).trans rfl,(kC BK252.out 2).trans rfl,(kC BK252.out 3).trans rfl⟩ (fun hHeld => ?_);refine with_tabW gazetteerref09_Grows.tab4 gazetteerref09_Grows.bits4 (fun HT_ HW_ => ?_)
    generalize w54.drew = w55 at BK252 BK253 BK254 BK255 BK262 HB hHeld ⊢
    refine take_ (i:=0) (N:=some 25) (v:=?_) (a':=?_) #[tt,ff,ff,ff,ff,ff,ff,ff,ff,ff,ff] rfl rfl (take_ofW HT_.out HW_.out (by kernel_rfl)) (fun _ _ _ h => h) (Or.inl ⟨by rfl,?_⟩) hHeld ?_ ?_
    rotate_left
    ·rintro w' ⟨s0,s1,s2,s3,s4,s5,s6,s7⟩
     go_simp
     with_reducible rfl
    rotate_left
    ·simp only [Act.put,sA,sZ,sS,i64_w,i32_w]
     rfl
    refine take_ (i:=2) (N:=some 27) (v:=?_) (a':=?_) #[tt,ff,tt,ff,ff,ff,ff,ff,ff,ff,ff] rfl rfl (take_ofW HT_.out HW_.out (by kernel_rfl)) (fun _ _ _ h => h) (Or.inl ⟨by rfl,?_⟩) hHeld ?_ ?_
    rotate_left
    ·rintro w' ⟨s0,s1,s2,s3,s4,s5,s6,s7⟩
     go_simp
     with_reducible rfl
    rotate_left
    ·simp only [Act.put,sA,sZ,sS,i64_w,i32_w]
     rfl
    refine join_ (σ:=Nat) 2 #[tt,tt,tt,tt,tt,tt,tt,tt,tt,ff,ff] (fun s_ => [(26,.agg #[.int .u64 t263,.int .u64 t264]),(28,.agg #[.int .u64 t265,.int .u64 t266]),(29,.tuple #[.agg #[.int .u64 t267,.int .u64 t268],.bool t269]),(7,.pointer (some ⟨s_,0,none⟩)),(24,.tuple #[.agg #[.int .u64 t267,.int .u64 t268],.bool t269]),(30,.agg #[.int .u64 t267,.int .u64 t268]),(31,.bool t269)]) (fun s_ w' => (w'.cell? ⟨gb262,0,none⟩ = some (.int .i64 t258)∧w'.cell? ⟨gb262,1,none⟩ = some (.int .i64 t259)∧w'.cell? ⟨gb262,2,none⟩ = some (.int .i64 t260)∧w'.cell? ⟨gb262,3,none⟩ = some (.int .i64 t261)∧w'.cell? ⟨gb252,0,none⟩ = some (.int .i64 a0_0)∧w'.cell? ⟨gb252,1,none⟩ = some (.int .i64 a0_1)∧w'.cell? ⟨gb252,2,none⟩ = some (.int .i64 a0_2)∧w'.cell? ⟨gb252,3,none⟩ = some (.int .i64 a0_3))∧(w'.heap[gb252]? = some (.cells #[.int .i64 a0_0,.int .i64 a0_1,.int .i64 a0_2,.int .i64 a0_3] 35 (0,0)))∧(w'.heap[gb253]? = some (.cells #[.int .i64 a1_0,.int .i64 a1_1,.int .i64 a1_2,.int .i64 a1_3] 35 (0,0)))∧(w'.heap[gb254]? = some (.cells #[.int .u64 0,.int .u64 0] 25 (0,0)))∧(w'.heap[gb255]? = some (.cells #[.int .u64 0,.int .u64 0] 25 (0,0)))∧(w'.heap[gb262]? = some (.cells #[.int .i64 t258,.int .i64 t259,.int .i64 t260,.int .i64 t261] 35 (0,0)))∧(w'.heap[s_]? = some (.cells #[.int .u64 0,.int .u64 0] 25 (0,0)))∧(w.heap.size ≤ s_)∧(w.heap.size ≤ s_)∧(gb252 ≠ s_)∧(s_ ≠ gb252)∧(gb253 ≠ s_)∧(s_ ≠ gb253)∧(gb254 ≠ s_)∧(s_ ≠ gb254)∧(gb255 ≠ s_)∧(s_ ≠ gb255)∧(gb262 ≠ s_)∧(s_ ≠ gb262)∧(Below w.heap.size w w')) ?_ ?_
    rotate_left
    ·intro hCont
     refine two_ (i:=1) (j:=8) (Ni:=some 26) (Nj:=some 7) #[tt,tt,tt,ff,ff,ff,ff,ff,ff,ff,ff] #[tt,ff,tt,ff,ff,ff,ff,ff,tt,ff,ff] rfl rfl rfl rfl (two_of HT_.out (by kernel_rfl)) (by decide) (by decide) (fun K hK => ?_) (fun K hK => ?_)
     ·skip
      refine goes_ Try.func25 (by kernel_rfl) rfl #[.agg #[.int .i64 t258,.int .i64 t259,.int .i64 t260,.int .i64 t261]] (by rfl) rfl rfl (by (try simp only [List.map_toArray,List.map_cons,List.map_nil]);first|done|rfl|(simp only [List.length_drop,List.length_take];rfl)) ?_
      with_reducible refine (gazetteerref07_Area.calls t258 t259 t260 t261 t263 t264 _ A34.out).mono ?_
      rintro e w56 ⟨rfl,hb⟩
      refine ⟨_,rfl,?_⟩
      have n0_:=Kb BK252 hb
      have n1_:=Kb BK253 hb
      have n2_:=Kb BK254 hb
      have n3_:=Kb BK255 hb
      have n4_:=Kb BK262 hb
      have n5_:=Kh HB hb
      clear BK252 BK253 BK254 BK255 BK262 HB
      have BK252:=n0_;have BK253:=n1_;have BK254:=n2_;have BK255:=n3_;have BK262:=n4_;have HB:=n5_
      clear n0_ n1_ n2_ n3_ n4_ n5_
      (try clear hb)
      (try clear hb2)
      (try clear hk)
      (try clear hi)
      refine hK.out _ _ ⟨(kC BK262.out 0).trans rfl,(kC BK262.out 1).trans rfl,(kC BK262.out 2).trans rfl,(kC BK262.out 3).trans rfl,(kC BK252.out 0).trans rfl,(kC BK252.out 1).trans rfl,(kC BK252.out 2).trans rfl,(kC BK252.out 3).trans rfl⟩ (fun hHeld => ?_)
      clear hK K
      refine norm_ (a':=?_) ?_ ?_
      rotate_left
      ·show Act.put _ (some 26) _ = _
       simp only [Act.put,sA,sZ,sS,i64_w,i32_w]
       rfl
      refine two_ (i:=3) (j:=8) (Ni:=some 28) (Nj:=some 7) #[tt,tt,tt,tt,ff,ff,ff,ff,ff,ff,ff] #[tt,tt,tt,ff,ff,ff,ff,ff,tt,ff,ff] rfl rfl rfl rfl (two_of HT_.out (by kernel_rfl)) (by decide) (by decide) (fun K hK => ?_) (fun K hK => ?_)
      ·skip
       refine goes_ Try.func25 (by kernel_rfl) rfl #[.agg #[.int .i64 a0_0,.int .i64 a0_1,.int .i64 a0_2,.int .i64 a0_3]] (by rfl) rfl rfl (by (try simp only [List.map_toArray,List.map_cons,List.map_nil]);first|done|rfl|(simp only [List.length_drop,List.length_take];rfl)) ?_
       with_reducible refine (gazetteerref07_Area.calls a0_0 a0_1 a0_2 a0_3 t265 t266 _ A35.out).mono ?_
       rintro e w57 ⟨rfl,hb⟩
       refine ⟨_,rfl,?_⟩
       have n0_:=Kb BK252 hb
       have n1_:=Kb BK253 hb
       have n2_:=Kb BK254 hb
       have n3_:=Kb BK255 hb
       have n4_:=Kb BK262 hb
       have n5_:=Kh HB hb
       clear BK252 BK253 BK254 BK255 BK262 HB
       have BK252:=n0_;have BK253:=n1_;have BK254:=n2_;have BK255:=n3_;have BK262:=n4_;have HB:=n5_
       clear n0_ n1_ n2_ n3_ n4_ n5_
       (try clear hb)
       (try clear hb2)
       (try clear hk)
       (try clear hi)
       refine hK.out _ _ ⟨(kC BK262.out 0).trans rfl,(kC BK262.out 1).trans rfl,(kC BK262.out 2).trans rfl,(kC BK262.out 3).trans rfl,(kC BK252.out 0).trans rfl,(kC BK252.out 1).trans rfl,(kC BK252.out 2).trans rfl,(kC BK252.out 3).trans rfl⟩ (fun hHeld => ?_)
       clear hK K
       refine norm_ (a':=?_) ?_ ?_
       rotate_left
       ·show Act.put _ (some 28) _ = _
        simp only [Act.put,sA,sZ,sS,i64_w,i32_w]
        rfl
       refine two_ (i:=4) (j:=8) (Ni:=some 29) (Nj:=some 7) #[tt,tt,tt,tt,tt,ff,ff,ff,ff,ff,ff] #[tt,tt,tt,tt,ff,ff,ff,ff,tt,ff,ff] rfl rfl rfl rfl (two_of HT_.out (by kernel_rfl)) (by decide) (by decide) (fun K hK => ?_) (fun K hK => ?_)
       ·skip
        refine goes_ Try.func30 (by kernel_rfl) rfl #[.agg #[.int .u64 t263,.int .u64 t264],.agg #[.int .u64 t265,.int .u64 t266]] (by rfl) rfl rfl (by (try simp only [List.map_toArray,List.map_cons,List.map_nil]);first|done|rfl|(simp only [List.length_drop,List.length_take];rfl)) ?_
        with_reducible refine (gazetteerref07_Sub.calls t263 t264 t265 t266 t267 t268 t269 _ A36.out).mono ?_
        rintro e w58 ⟨rfl,hb⟩
        refine ⟨_,rfl,?_⟩
        have n0_:=Kb BK252 hb
        have n1_:=Kb BK253 hb
        have n2_:=Kb BK254 hb
        have n3_:=Kb BK255 hb
        have n4_:=Kb BK262 hb
        have n5_:=Kh HB hb
        clear BK252 BK253 BK254 BK255 BK262 HB
        have BK252:=n0_;have BK253:=n1_;have BK254:=n2_;have BK255:=n3_;have BK262:=n4_;have HB:=n5_
        clear n0_ n1_ n2_ n3_ n4_ n5_
        (try clear hb)
        (try clear hb2)
        (try clear hk)
        (try clear hi)
        refine hK.out _ _ ⟨(kC BK262.out 0).trans rfl,(kC BK262.out 1).trans rfl,(kC BK262.out 2).trans rfl,(kC BK262.out 3).trans rfl,(kC BK252.out 0).trans rfl,(kC BK252.out 1).trans rfl,(kC BK252.out 2).trans rfl,(kC BK252.out 3).trans rfl⟩ (fun hHeld => ?_)
        clear hK K
        refine norm_ (a':=?_) ?_ ?_
        rotate_left
        ·show Act.put _ (some 29) _ = _
         simp only [Act.put,sA,sZ,sS,i64_w,i32_w]
         rfl
        refine pure_ (i:=5) (N:=some 24) (v:=?_) (a':=?_) #[tt,tt,tt,tt,tt,tt,ff,ff,ff,ff,ff] rfl rfl (any_of HT_.out (by kernel_rfl)) (fun _ _ _ h => h) (Or.inl ⟨by rfl,?_⟩) ?_ ?_
        rotate_left
        ·intro w'
         go_simp
         with_reducible rfl
        rotate_left
        ·simp only [Act.put,sA,sZ,sS,i64_w,i32_w]
         rfl
        refine pure_ (i:=6) (N:=some 30) (v:=?_) (a':=?_) #[tt,tt,tt,tt,tt,tt,tt,ff,ff,ff,ff] rfl rfl (any_of HT_.out (by kernel_rfl)) (fun _ _ _ h => h) (Or.inl ⟨by rfl,?_⟩) ?_ ?_
        rotate_left
        ·intro w'
         go_simp
         with_reducible rfl
        rotate_left
        ·simp only [Act.put,sA,sZ,sS,i64_w,i32_w]
         rfl
        refine pure_ (i:=7) (N:=some 31) (v:=?_) (a':=?_) #[tt,tt,tt,tt,tt,tt,tt,tt,ff,ff,ff] rfl rfl (any_of HT_.out (by kernel_rfl)) (fun _ _ _ h => h) (Or.inl ⟨by rfl,?_⟩) ?_ ?_
        rotate_left
        ·intro w'
         go_simp
         with_reducible rfl
        rotate_left
        ·simp only [Act.put,sA,sZ,sS,i64_w,i32_w]
         rfl
        refine one_ (i:=8) (N:=some 7) #[tt,tt,tt,tt,tt,tt,tt,tt,tt,ff,ff] rfl rfl (one_of HT_.out (by kernel_rfl)) (by decide) (fun K hK => ?_)
        refine box_step ?hg (N:=7) ?hd (cs:=#[.int .u64 0,.int .u64 0]) (t:=25) ?hr ?_;(case hd => rfl);(case hg => rfl);(case hr => first|(go_simp;done)|(go_simp;rfl))
        intro gb270 hg w59 hbox hb
        have n0_:=Kb BK252 hb
        have n1_:=Kb BK253 hb
        have n2_:=Kb BK254 hb
        have n3_:=Kb BK255 hb
        have n4_:=Kb BK262 hb
        have n5_:=Kh HB hb
        have n6_:=Ak (hbox)
        have n7_:=Kz hg HB
        have n8_:=Kz hg HB
        have n9_:=Kl hg BK252
        have n10_:=Km hg BK252
        have n11_:=Kl hg BK253
        have n12_:=Km hg BK253
        have n13_:=Kl hg BK254
        have n14_:=Km hg BK254
        have n15_:=Kl hg BK255
        have n16_:=Km hg BK255
        have n17_:=Kl hg BK262
        have n18_:=Km hg BK262
        clear BK252 BK253 BK254 BK255 BK262 HB
        have BK252:=n0_;have BK253:=n1_;have BK254:=n2_;have BK255:=n3_;have BK262:=n4_;have HB:=n5_;have BK270:=n6_;have GW270:=n7_;have GE270:=n8_;have NB252_270:=n9_;have NB270_252:=n10_;have NB253_270:=n11_;have NB270_253:=n12_;have NB254_270:=n13_;have NB270_254:=n14_;have NB255_270:=n15_;have NB270_255:=n16_;have NB262_270:=n17_;have NB270_262:=n18_
        clear n0_ n1_ n2_ n3_ n4_ n5_ n6_ n7_ n8_ n9_ n10_ n11_ n12_ n13_ n14_ n15_ n16_ n17_ n18_ hb hbox hg
        refine hK.out _ _ ⟨(kC BK262.out 0).trans rfl,(kC BK262.out 1).trans rfl,(kC BK262.out 2).trans rfl,(kC BK262.out 3).trans rfl,(kC BK252.out 0).trans rfl,(kC BK252.out 1).trans rfl,(kC BK252.out 2).trans rfl,(kC BK252.out 3).trans rfl⟩ (fun hHeld => ?_)
        clear hK K
        refine norm_ (a':=?_) ?_ ?_
        rotate_left
        ·show Act.put _ (some 7) _ = _
         simp only [Act.put,sA,sZ,sS,i64_w,i32_w]
         rfl
        exact norm_ (by simp only [putAll,Act.put,sA,sZ,sS]) (hCont (gb270) _ ⟨hHeld,BK252.out,BK253.out,BK254.out,BK255.out,BK262.out,BK270.out,GW270.out,GE270.out,NB252_270.out,NB270_252.out,NB253_270.out,NB270_253.out,NB254_270.out,NB270_254.out,NB255_270.out,NB270_255.out,NB262_270.out,NB270_262.out,HB.out⟩)
       ·skip
        refine box_step ?hg (N:=7) ?hd (cs:=#[.int .u64 0,.int .u64 0]) (t:=25) ?hr ?_;(case hd => rfl);(case hg => rfl);(case hr => first|(go_simp;done)|(go_simp;rfl))
        intro gb270 hg w58 hbox hb
        have n0_:=Kb BK252 hb
        have n1_:=Kb BK253 hb
        have n2_:=Kb BK254 hb
        have n3_:=Kb BK255 hb
        have n4_:=Kb BK262 hb
        have n5_:=Kh HB hb
        have n6_:=Ak (hbox)
        have n7_:=Kz hg HB
        have n8_:=Kz hg HB
        have n9_:=Kl hg BK252
        have n10_:=Km hg BK252
        have n11_:=Kl hg BK253
        have n12_:=Km hg BK253
        have n13_:=Kl hg BK254
        have n14_:=Km hg BK254
        have n15_:=Kl hg BK255
        have n16_:=Km hg BK255
        have n17_:=Kl hg BK262
        have n18_:=Km hg BK262
        clear BK252 BK253 BK254 BK255 BK262 HB
        have BK252:=n0_;have BK253:=n1_;have BK254:=n2_;have BK255:=n3_;have BK262:=n4_;have HB:=n5_;have BK270:=n6_;have GW270:=n7_;have GE270:=n8_;have NB252_270:=n9_;have NB270_252:=n10_;have NB253_270:=n11_;have NB270_253:=n12_;have NB254_270:=n13_;have NB270_254:=n14_;have NB255_270:=n15_;have NB270_255:=n16_;have NB262_270:=n17_;have NB270_262:=n18_
        clear n0_ n1_ n2_ n3_ n4_ n5_ n6_ n7_ n8_ n9_ n10_ n11_ n12_ n13_ n14_ n15_ n16_ n17_ n18_ hb hbox hg
        refine hK.out _ _ ⟨(kC BK262.out 0).trans rfl,(kC BK262.out 1).trans rfl,(kC BK262.out 2).trans rfl,(kC BK262.out 3).trans rfl,(kC BK252.out 0).trans rfl,(kC BK252.out 1).trans rfl,(kC BK252.out 2).trans rfl,(kC BK252.out 3).trans rfl⟩ (fun hHeld => ?_)
        clear hK K
        refine norm_ (a':=?_) ?_ ?_
        rotate_left
        ·show Act.put _ (some 7) _ = _
         simp only [Act.put,sA,sZ,sS,i64_w,i32_w]
         rfl
        refine one_ (i:=4) (N:=some 29) #[tt,tt,tt,tt,tt,ff,ff,ff,tt,ff,ff] rfl rfl (one_of HT_.out (by kernel_rfl)) (by decide) (fun K hK => ?_)
        refine goes_ Try.func30 (by kernel_rfl) rfl #[.agg #[.int .u64 t263,.int .u64 t264],.agg #[.int .u64 t265,.int .u64 t266]] (by rfl) rfl rfl (by (try simp only [List.map_toArray,List.map_cons,List.map_nil]);first|done|rfl|(simp only [List.length_drop,List.length_take];rfl)) ?_
        with_reducible refine (gazetteerref07_Sub.calls t263 t264 t265 t266 t267 t268 t269 _ A36.out).mono ?_
        rintro e w59 ⟨rfl,hb⟩
        refine ⟨_,rfl,?_⟩
        have n0_:=Kb BK252 hb
        have n1_:=Kb BK253 hb
        have n2_:=Kb BK254 hb
        have n3_:=Kb BK255 hb
        have n4_:=Kb BK262 hb
        have n5_:=Kb BK270 hb
        have n6_:=Kh HB hb
        clear BK252 BK253 BK254 BK255 BK262 BK270 HB
        have BK252:=n0_;have BK253:=n1_;have BK254:=n2_;have BK255:=n3_;have BK262:=n4_;have BK270:=n5_;have HB:=n6_
        clear n0_ n1_ n2_ n3_ n4_ n5_ n6_
        (try clear hb)
        (try clear hb2)
        (try clear hk)
        (try clear hi)
        refine hK.out _ _ ⟨(kC BK262.out 0).trans rfl,(kC BK262.out 1).trans rfl,(kC BK262.out 2).trans rfl,(kC BK262.out 3).trans rfl,(kC BK252.out 0).trans rfl,(kC BK252.out 1).trans rfl,(kC BK252.out 2).trans rfl,(kC BK252.out 3).trans rfl⟩ (fun hHeld => ?_)
        clear hK K
        refine norm_ (a':=?_) ?_ ?_
        rotate_left
        ·show Act.put _ (some 29) _ = _
         simp only [Act.put,sA,sZ,sS,i64_w,i32_w]
         rfl
        refine pure_ (i:=5) (N:=some 24) (v:=?_) (a':=?_) #[tt,tt,tt,tt,tt,tt,ff,ff,tt,ff,ff] rfl rfl (any_of HT_.out (by kernel_rfl)) (fun _ _ _ h => h) (Or.inl ⟨by rfl,?_⟩) ?_ ?_
        rotate_left
        ·intro w'
         go_simp
         with_reducible rfl
        rotate_left
        ·simp only [Act.put,sA,sZ,sS,i64_w,i32_w]
         rfl
        refine pure_ (i:=6) (N:=some 30) (v:=?_) (a':=?_) #[tt,tt,tt,tt,tt,tt,tt,ff,tt,ff,ff] rfl rfl (any_of HT_.out (by kernel_rfl)) (fun _ _ _ h => h) (Or.inl ⟨by rfl,?_⟩) ?_ ?_
        rotate_left
        ·intro w'
         go_simp
         with_reducible rfl
        rotate_left
        ·simp only [Act.put,sA,sZ,sS,i64_w,i32_w]
         rfl
        refine pure_ (i:=7) (N:=some 31) (v:=?_) (a':=?_) #[tt,tt,tt,tt,tt,tt,tt,tt,tt,ff,ff] rfl rfl (any_of HT_.out (by kernel_rfl)) (fun _ _ _ h => h) (Or.inl ⟨by rfl,?_⟩) ?_ ?_
        rotate_left
        ·intro w'
         go_simp
         with_reducible rfl
        rotate_left
        ·simp only [Act.put,sA,sZ,sS,i64_w,i32_w]
         rfl
        exact norm_ (by simp only [putAll,Act.put,sA,sZ,sS]) (hCont (gb270) _ ⟨hHeld,BK252.out,BK253.out,BK254.out,BK255.out,BK262.out,BK270.out,GW270.out,GE270.out,NB252_270.out,NB270_252.out,NB253_270.out,NB270_253.out,NB254_270.out,NB270_254.out,NB255_270.out,NB270_255.out,NB262_270.out,NB270_262.out,HB.out⟩)
      ·skip
       refine box_step ?hg (N:=7) ?hd (cs:=#[.int .u64 0,.int .u64 0]) (t:=25) ?hr ?_;(case hd => rfl);(case hg => rfl);(case hr => first|(go_simp;done)|(go_simp;rfl))
       intro gb270 hg w57 hbox hb
       have n0_:=Kb BK252 hb
       have n1_:=Kb BK253 hb
       have n2_:=Kb BK254 hb
       have n3_:=Kb BK255 hb
       have n4_:=Kb BK262 hb
       have n5_:=Kh HB hb
       have n6_:=Ak (hbox)
       have n7_:=Kz hg HB
       have n8_:=Kz hg HB
       have n9_:=Kl hg BK252
       have n10_:=Km hg BK252
       have n11_:=Kl hg BK253
       have n12_:=Km hg BK253
       have n13_:=Kl hg BK254
       have n14_:=Km hg BK254
       have n15_:=Kl hg BK255
       have n16_:=Km hg BK255
       have n17_:=Kl hg BK262
       have n18_:=Km hg BK262
       clear BK252 BK253 BK254 BK255 BK262 HB
       have BK252:=n0_;have BK253:=n1_;have BK254:=n2_;have BK255:=n3_;have BK262:=n4_;have HB:=n5_;have BK270:=n6_;have GW270:=n7_;have GE270:=n8_;have NB252_270:=n9_;have NB270_252:=n10_;have NB253_270:=n11_;have NB270_253:=n12_;have NB254_270:=n13_;have NB270_254:=n14_;have NB255_270:=n15_;have NB270_255:=n16_;have NB262_270:=n17_;have NB270_262:=n18_
       clear n0_ n1_ n2_ n3_ n4_ n5_ n6_ n7_ n8_ n9_ n10_ n11_ n12_ n13_ n14_ n15_ n16_ n17_ n18_ hb hbox hg
       refine hK.out _ _ ⟨(kC BK262.out 0).trans rfl,(kC BK262.out 1).trans rfl,(kC BK262.out 2).trans rfl,(kC BK262.out 3).trans rfl,(kC BK252.out 0).trans rfl,(kC BK252.out 1).trans rfl,(kC BK252.out 2).trans rfl,(kC BK252.out 3).trans rfl⟩ (fun hHeld => ?_)
       clear hK K
       refine norm_ (a':=?_) ?_ ?_
       rotate_left
       ·show Act.put _ (some 7) _ = _
        simp only [Act.put,sA,sZ,sS,i64_w,i32_w]
        rfl
       refine one_ (i:=3) (N:=some 28) #[tt,tt,tt,tt,ff,ff,ff,ff,tt,ff,ff] rfl rfl (one_of HT_.out (by kernel_rfl)) (by decide) (fun K hK => ?_)
       refine goes_ Try.func25 (by kernel_rfl) rfl #[.agg #[.int .i64 a0_0,.int .i64 a0_1,.int .i64 a0_2,.int .i64 a0_3]] (by rfl) rfl rfl (by (try simp only [List.map_toArray,List.map_cons,List.map_nil]);first|done|rfl|(simp only [List.length_drop,List.length_take];rfl)) ?_
       with_reducible refine (gazetteerref07_Area.calls a0_0 a0_1 a0_2 a0_3 t265 t266 _ A35.out).mono ?_
       rintro e w58 ⟨rfl,hb⟩
       refine ⟨_,rfl,?_⟩
       have n0_:=Kb BK252 hb
       have n1_:=Kb BK253 hb
       have n2_:=Kb BK254 hb
       have n3_:=Kb BK255 hb
       have n4_:=Kb BK262 hb
       have n5_:=Kb BK270 hb
       have n6_:=Kh HB hb
       clear BK252 BK253 BK254 BK255 BK262 BK270 HB
       have BK252:=n0_;have BK253:=n1_;have BK254:=n2_;have BK255:=n3_;have BK262:=n4_;have BK270:=n5_;have HB:=n6_
       clear n0_ n1_ n2_ n3_ n4_ n5_ n6_
       (try clear hb)
       (try clear hb2)
       (try clear hk)
       (try clear hi)
       refine hK.out _ _ ⟨(kC BK262.out 0).trans rfl,(kC BK262.out 1).trans rfl,(kC BK262.out 2).trans rfl,(kC BK262.out 3).trans rfl,(kC BK252.out 0).trans rfl,(kC BK252.out 1).trans rfl,(kC BK252.out 2).trans rfl,(kC BK252.out 3).trans rfl⟩ (fun hHeld => ?_)
       clear hK K
       refine norm_ (a':=?_) ?_ ?_
       rotate_left
       ·show Act.put _ (some 28) _ = _
        simp only [Act.put,sA,sZ,sS,i64_w,i32_w]
        rfl
       refine one_ (i:=4) (N:=some 29) #[tt,tt,tt,tt,tt,ff,ff,ff,tt,ff,ff] rfl rfl (one_of HT_.out (by kernel_rfl)) (by decide) (fun K hK => ?_)
       refine goes_ Try.func30 (by kernel_rfl) rfl #[.agg #[.int .u64 t263,.int .u64 t264],.agg #[.int .u64 t265,.int .u64 t266]] (by rfl) rfl rfl (by (try simp only [List.map_toArray,List.map_cons,List.map_nil]);first|done|rfl|(simp only [List.length_drop,List.length_take];rfl)) ?_
       with_reducible refine (gazetteerref07_Sub.calls t263 t264 t265 t266 t267 t268 t269 _ A36.out).mono ?_
       rintro e w59 ⟨rfl,hb⟩
       refine ⟨_,rfl,?_⟩
       have n0_:=Kb BK252 hb
       have n1_:=Kb BK253 hb
       have n2_:=Kb BK254 hb
       have n3_:=Kb BK255 hb
       have n4_:=Kb BK262 hb
       have n5_:=Kb BK270 hb
       have n6_:=Kh HB hb
       clear BK252 BK253 BK254 BK255 BK262 BK270 HB
       have BK252:=n0_;have BK253:=n1_;have BK254:=n2_;have BK255:=n3_;have BK262:=n4_;have BK270:=n5_;have HB:=n6_
       clear n0_ n1_ n2_ n3_ n4_ n5_ n6_
       (try clear hb)
       (try clear hb2)
       (try clear hk)
       (try clear hi)
       refine hK.out _ _ ⟨(kC BK262.out 0).trans rfl,(kC BK262.out 1).trans rfl,(kC BK262.out 2).trans rfl,(kC BK262.out 3).trans rfl,(kC BK252.out 0).trans rfl,(kC BK252.out 1).trans rfl,(kC BK252.out 2).trans rfl,(kC BK252.out 3).trans rfl⟩ (fun hHeld => ?_)
       clear hK K
       refine norm_ (a':=?_) ?_ ?_
       rotate_left
       ·show Act.put _ (some 29) _ = _
        simp only [Act.put,sA,sZ,sS,i64_w,i32_w]
        rfl
       refine pure_ (i:=5) (N:=some 24) (v:=?_) (a':=?_) #[tt,tt,tt,tt,tt,tt,ff,ff,tt,ff,ff] rfl rfl (any_of HT_.out (by kernel_rfl)) (fun _ _ _ h => h) (Or.inl ⟨by rfl,?_⟩) ?_ ?_
       rotate_left
       ·intro w'
        go_simp
        with_reducible rfl
       rotate_left
       ·simp only [Act.put,sA,sZ,sS,i64_w,i32_w]
        rfl
       refine pure_ (i:=6) (N:=some 30) (v:=?_) (a':=?_) #[tt,tt,tt,tt,tt,tt,tt,ff,tt,ff,ff] rfl rfl (any_of HT_.out (by kernel_rfl)) (fun _ _ _ h => h) (Or.inl ⟨by rfl,?_⟩) ?_ ?_
       rotate_left
       ·intro w'
        go_simp
        with_reducible rfl
       rotate_left
       ·simp only [Act.put,sA,sZ,sS,i64_w,i32_w]
        rfl
       refine pure_ (i:=7) (N:=some 31) (v:=?_) (a':=?_) #[tt,tt,tt,tt,tt,tt,tt,tt,tt,ff,ff] rfl rfl (any_of HT_.out (by kernel_rfl)) (fun _ _ _ h => h) (Or.inl ⟨by rfl,?_⟩) ?_ ?_
       rotate_left
       ·intro w'
        go_simp
        with_reducible rfl
       rotate_left
       ·simp only [Act.put,sA,sZ,sS,i64_w,i32_w]
        rfl
       exact norm_ (by simp only [putAll,Act.put,sA,sZ,sS]) (hCont (gb270) _ ⟨hHeld,BK252.out,BK253.out,BK254.out,BK255.out,BK262.out,BK270.out,GW270.out,GE270.out,NB252_270.out,NB270_252.out,NB253_270.out,NB270_253.out,NB254_270.out,NB270_254.out,NB255_270.out,NB270_255.out,NB262_270.out,NB270_262.out,HB.out⟩)
     ·skip
      refine box_step ?hg (N:=7) ?hd (cs:=#[.int .u64 0,.int .u64 0]) (t:=25) ?hr ?_;(case hd => rfl);(case hg => rfl);(case hr => first|(go_simp;done)|(go_simp;rfl))
      intro gb270 hg w56 hbox hb
      have n0_:=Kb BK252 hb
      have n1_:=Kb BK253 hb
      have n2_:=Kb BK254 hb
      have n3_:=Kb BK255 hb
      have n4_:=Kb BK262 hb
      have n5_:=Kh HB hb
      have n6_:=Ak (hbox)
      have n7_:=Kz hg HB
      have n8_:=Kz hg HB
      have n9_:=Kl hg BK252
      have n10_:=Km hg BK252
      have n11_:=Kl hg BK253
      have n12_:=Km hg BK253
      have n13_:=Kl hg BK254
      have n14_:=Km hg BK254
      have n15_:=Kl hg BK255
      have n16_:=Km hg BK255
      have n17_:=Kl hg BK262
      have n18_:=Km hg BK262
      clear BK252 BK253 BK254 BK255 BK262 HB
      have BK252:=n0_;have BK253:=n1_;have BK254:=n2_;have BK255:=n3_;have BK262:=n4_;have HB:=n5_;have BK270:=n6_;have GW270:=n7_;have GE270:=n8_;have NB252_270:=n9_;have NB270_252:=n10_;have NB253_270:=n11_;have NB270_253:=n12_;have NB254_270:=n13_;have NB270_254:=n14_;have NB255_270:=n15_;have NB270_255:=n16_;have NB262_270:=n17_;have NB270_262:=n18_
      clear n0_ n1_ n2_ n3_ n4_ n5_ n6_ n7_ n8_ n9_ n10_ n11_ n12_ n13_ n14_ n15_ n16_ n17_ n18_ hb hbox hg
      refine hK.out _ _ ⟨(kC BK262.out 0).trans rfl,(kC BK262.out 1).trans rfl,(kC BK262.out 2).trans rfl,(kC BK262.out 3).trans rfl,(kC BK252.out 0).trans rfl,(kC BK252.out 1).trans rfl,(kC BK252.out 2).trans rfl,(kC BK252.out 3).trans rfl⟩ (fun hHeld => ?_)
      clear hK K
      refine norm_ (a':=?_) ?_ ?_
      rotate_left
      ·show Act.put _ (some 7) _ = _
       simp only [Act.put,sA,sZ,sS,i64_w,i32_w]
       rfl
      refine one_ (i:=1) (N:=some 26) #[tt,tt,tt,ff,ff,ff,ff,ff,tt,ff,ff] rfl rfl (one_of HT_.out (by kernel_rfl)) (by decide) (fun K hK => ?_)
      refine goes_ Try.func25 (by kernel_rfl) rfl #[.agg #[.int .i64 t258,.int .i64 t259,.int .i64 t260,.int .i64 t261]] (by rfl) rfl rfl (by (try simp only [List.map_toArray,List.map_cons,List.map_nil]);first|done|rfl|(simp only [List.length_drop,List.length_take];rfl)) ?_
      with_reducible refine (gazetteerref07_Area.calls t258 t259 t260 t261 t263 t264 _ A34.out).mono ?_
      rintro e w57 ⟨rfl,hb⟩
      refine ⟨_,rfl,?_⟩
      have n0_:=Kb BK252 hb
      have n1_:=Kb BK253 hb
      have n2_:=Kb BK254 hb
      have n3_:=Kb BK255 hb
      have n4_:=Kb BK262 hb
      have n5_:=Kb BK270 hb
      have n6_:=Kh HB hb
      clear BK252 BK253 BK254 BK255 BK262 BK270 HB
      have BK252:=n0_;have BK253:=n1_;have BK254:=n2_;have BK255:=n3_;have BK262:=n4_;have BK270:=n5_;have HB:=n6_
      clear n0_ n1_ n2_ n3_ n4_ n5_ n6_
      (try clear hb)
      (try clear hb2)
      (try clear hk)
      (try clear hi)
      refine hK.out _ _ ⟨(kC BK262.out 0).trans rfl,(kC BK262.out 1).trans rfl,(kC BK262.out 2).trans rfl,(kC BK262.out 3).trans rfl,(kC BK252.out 0).trans rfl,(kC BK252.out 1).trans rfl,(kC BK252.out 2).trans rfl,(kC BK252.out 3).trans rfl⟩ (fun hHeld => ?_)
      clear hK K
      refine norm_ (a':=?_) ?_ ?_
      rotate_left
      ·show Act.put _ (some 26) _ = _
       simp only [Act.put,sA,sZ,sS,i64_w,i32_w]
       rfl
      refine one_ (i:=3) (N:=some 28) #[tt,tt,tt,tt,ff,ff,ff,ff,tt,ff,ff] rfl rfl (one_of HT_.out (by kernel_rfl)) (by decide) (fun K hK => ?_)
      refine goes_ Try.func25 (by kernel_rfl) rfl #[.agg #[.int .i64 a0_0,.int .i64 a0_1,.int .i64 a0_2,.int .i64 a0_3]] (by rfl) rfl rfl (by (try simp only [List.map_toArray,List.map_cons,List.map_nil]);first|done|rfl|(simp only [List.length_drop,List.length_take];rfl)) ?_
      with_reducible refine (gazetteerref07_Area.calls a0_0 a0_1 a0_2 a0_3 t265 t266 _ A35.out).mono ?_
      rintro e w58 ⟨rfl,hb⟩
      refine ⟨_,rfl,?_⟩
      have n0_:=Kb BK252 hb
      have n1_:=Kb BK253 hb
      have n2_:=Kb BK254 hb
      have n3_:=Kb BK255 hb
      have n4_:=Kb BK262 hb
      have n5_:=Kb BK270 hb
      have n6_:=Kh HB hb
      clear BK252 BK253 BK254 BK255 BK262 BK270 HB
      have BK252:=n0_;have BK253:=n1_;have BK254:=n2_;have BK255:=n3_;have BK262:=n4_;have BK270:=n5_;have HB:=n6_
      clear n0_ n1_ n2_ n3_ n4_ n5_ n6_
      (try clear hb)
      (try clear hb2)
      (try clear hk)
      (try clear hi)
      refine hK.out _ _ ⟨(kC BK262.out 0).trans rfl,(kC BK262.out 1).trans rfl,(kC BK262.out 2).trans rfl,(kC BK262.out 3).trans rfl,(kC BK252.out 0).trans rfl,(kC BK252.out 1).trans rfl,(kC BK252.out 2).trans rfl,(kC BK252.out 3).trans rfl⟩ (fun hHeld => ?_)
      clear hK K
      refine norm_ (a':=?_) ?_ ?_
      rotate_left
      ·show Act.put _ (some 28) _ = _
       simp only [Act.put,sA,sZ,sS,i64_w,i32_w]
       rfl
      refine one_ (i:=4) (N:=some 29) #[tt,tt,tt,tt,tt,ff,ff,ff,tt,ff,ff] rfl rfl (one_of HT_.out (by kernel_rfl)) (by decide) (fun K hK => ?_)
      refine goes_ Try.func30 (by kernel_rfl) rfl #[.agg #[.int .u64 t263,.int .u64 t264],.agg #[.int .u64 t265,.int .u64 t266]] (by rfl) rfl rfl (by (try simp only [List.map_toArray,List.map_cons,List.map_nil]);first|done|rfl|(simp only [List.length_drop,List.length_take];rfl)) ?_
      with_reducible refine (gazetteerref07_Sub.calls t263 t264 t265 t266 t267 t268 t269 _ A36.out).mono ?_
      rintro e w59 ⟨rfl,hb⟩
      refine ⟨_,rfl,?_⟩
      have n0_:=Kb BK252 hb
      have n1_:=Kb BK253 hb
      have n2_:=Kb BK254 hb
      have n3_:=Kb BK255 hb
      have n4_:=Kb BK262 hb
      have n5_:=Kb BK270 hb
      have n6_:=Kh HB hb
      clear BK252 BK253 BK254 BK255 BK262 BK270 HB
      have BK252:=n0_;have BK253:=n1_;have BK254:=n2_;have BK255:=n3_;have BK262:=n4_;have BK270:=n5_;have HB:=n6_
      clear n0_ n1_ n2_ n3_ n4_ n5_ n6_
      (try clear hb)
      (try clear hb2)
      (try clear hk)
      (try clear hi)
      refine hK.out _ _ ⟨(kC BK262.out 0).trans rfl,(kC BK262.out 1).trans rfl,(kC BK262.out 2).trans rfl,(kC BK262.out 3).trans rfl,(kC BK252.out 0).trans rfl,(kC BK252.out 1).trans rfl,(kC BK252.out 2).trans rfl,(kC BK252.out 3).trans rfl⟩ (fun hHeld => ?_)
      clear hK K
      refine norm_ (a':=?_) ?_ ?_
      rotate_left
      ·show Act.put _ (some 29) _ = _
       simp only [Act.put,sA,sZ,sS,i64_w,i32_w]
       rfl
      refine pure_ (i:=5) (N:=some 24) (v:=?_) (a':=?_) #[tt,tt,tt,tt,tt,tt,ff,ff,tt,ff,ff] rfl rfl (any_of HT_.out (by kernel_rfl)) (fun _ _ _ h => h) (Or.inl ⟨by rfl,?_⟩) ?_ ?_
      rotate_left
      ·intro w'
       go_simp
       with_reducible rfl
      rotate_left
      ·simp only [Act.put,sA,sZ,sS,i64_w,i32_w]
       rfl
      refine pure_ (i:=6) (N:=some 30) (v:=?_) (a':=?_) #[tt,tt,tt,tt,tt,tt,tt,ff,tt,ff,ff] rfl rfl (any_of HT_.out (by kernel_rfl)) (fun _ _ _ h => h) (Or.inl ⟨by rfl,?_⟩) ?_ ?_
      rotate_left
      ·intro w'
       go_simp
       with_reducible rfl
      rotate_left
      ·simp only [Act.put,sA,sZ,sS,i64_w,i32_w]
       rfl
      refine pure_ (i:=7) (N:=some 31) (v:=?_) (a':=?_) #[tt,tt,tt,tt,tt,tt,tt,tt,tt,ff,ff] rfl rfl (any_of HT_.out (by kernel_rfl)) (fun _ _ _ h => h) (Or.inl ⟨by rfl,?_⟩) ?_ ?_
      rotate_left
      ·intro w'
       go_simp
       with_reducible rfl
      rotate_left
      ·simp only [Act.put,sA,sZ,sS,i64_w,i32_w]
       rfl
      exact norm_ (by simp only [putAll,Act.put,sA,sZ,sS]) (hCont (gb270) _ ⟨hHeld,BK252.out,BK253.out,BK254.out,BK255.out,BK262.out,BK270.out,GW270.out,GE270.out,NB252_270.out,NB270_252.out,NB253_270.out,NB270_253.out,NB254_270.out,NB270_254.out,NB255_270.out,NB270_255.out,NB262_270.out,NB270_262.out,HB.out⟩)
    rintro gb270 w60 ⟨hS_,h0_,h1_,h2_,h3_,h4_,h5_,h6_,h7_,h8_,h9_,h10_,h11_,h12_,h13_,h14_,h15_,h16_,h17_,h18_⟩
    have n0_ : Aside0 (w60.heap[gb252]? = some (.cells #[.int .i64 a0_0,.int .i64 a0_1,.int .i64 a0_2,.int .i64 a0_3] 35 (0,0))):=⟨h0_⟩
    have n1_ : Aside0 (w60.heap[gb253]? = some (.cells #[.int .i64 a1_0,.int .i64 a1_1,.int .i64 a1_2,.int .i64 a1_3] 35 (0,0))):=⟨h1_⟩
    have n2_ : Aside0 (w60.heap[gb254]? = some (.cells #[.int .u64 0,.int .u64 0] 25 (0,0))):=⟨h2_⟩
    have n3_ : Aside0 (w60.heap[gb255]? = some (.cells #[.int .u64 0,.int .u64 0] 25 (0,0))):=⟨h3_⟩
    have n4_ : Aside0 (w60.heap[gb262]? = some (.cells #[.int .i64 t258,.int .i64 t259,.int .i64 t260,.int .i64 t261] 35 (0,0))):=⟨h4_⟩
    have n5_ : Aside0 (w60.heap[gb270]? = some (.cells #[.int .u64 0,.int .u64 0] 25 (0,0))):=⟨h5_⟩
    have n6_ : Aside0 (w.heap.size ≤ gb270):=⟨h6_⟩
    have n7_ : Aside0 (w.heap.size ≤ gb270):=⟨h7_⟩
    have n8_ : Aside0 (gb252 ≠ gb270):=⟨h8_⟩
    have n9_ : Aside0 (gb270 ≠ gb252):=⟨h9_⟩
    have n10_ : Aside0 (gb253 ≠ gb270):=⟨h10_⟩
    have n11_ : Aside0 (gb270 ≠ gb253):=⟨h11_⟩
    have n12_ : Aside0 (gb254 ≠ gb270):=⟨h12_⟩
    have n13_ : Aside0 (gb270 ≠ gb254):=⟨h13_⟩
    have n14_ : Aside0 (gb255 ≠ gb270):=⟨h14_⟩
    have n15_ : Aside0 (gb270 ≠ gb255):=⟨h15_⟩
    have n16_ : Aside0 (gb262 ≠ gb270):=⟨h16_⟩
    have n17_ : Aside0 (gb270 ≠ gb262):=⟨h17_⟩
    have n18_ : Aside0 (Below w.heap.size w w60):=⟨h18_⟩
    clear BK252 BK253 BK254 BK255 BK262 HB h0_ h1_ h2_ h3_ h4_ h5_ h6_ h7_ h8_ h9_ h10_ h11_ h12_ h13_ h14_ h15_ h16_ h17_ h18_
    have BK252:=n0_;have BK253:=n1_;have BK254:=n2_;have BK255:=n3_;have BK262:=n4_;have BK270:=n5_;have GW270:=n6_;have GE270:=n7_;have NB252_270:=n8_;have NB270_252:=n9_;have NB253_270:=n10_;have NB270_253:=n11_;have NB254_270:=n12_;have NB270_254:=n13_;have NB255_270:=n14_;have NB270_255:=n15_;have NB262_270:=n16_;have NB270_262:=n17_;have HB:=n18_
    clear n0_ n1_ n2_ n3_ n4_ n5_ n6_ n7_ n8_ n9_ n10_ n11_ n12_ n13_ n14_ n15_ n16_ n17_ n18_
    have hHeld : w60.cell? ⟨gb262,0,none⟩ = some (.int .i64 t258)∧w60.cell? ⟨gb262,1,none⟩ = some (.int .i64 t259)∧w60.cell? ⟨gb262,2,none⟩ = some (.int .i64 t260)∧w60.cell? ⟨gb262,3,none⟩ = some (.int .i64 t261)∧w60.cell? ⟨gb252,0,none⟩ = some (.int .i64 a0_0)∧w60.cell? ⟨gb252,1,none⟩ = some (.int .i64 a0_1)∧w60.cell? ⟨gb252,2,none⟩ = some (.int .i64 a0_2)∧w60.cell? ⟨gb252,3,none⟩ = some (.int .i64 a0_3):=hS_
    refine norm_ (a':=?_) ?_ ?_
    rotate_left
    ·simp only [putAll,Act.put,sA,sZ,sS]
     rfl
    refine one_ (i:=9) (N:=none) #[tt,tt,tt,tt,tt,tt,tt,tt,tt,tt,ff] rfl rfl (one_of HT_.out (by kernel_rfl)) (by decide) (fun K hK => ?_)
    have hs61 : w60.cell? ⟨gb270,0,none⟩ = some (.int .u64 0):=(kC BK270.out 0).trans rfl
    have hfs61:=blk_frozen BK270.out 0
    have hns61_0:=NB252_270.out
    have hns61_1:=NB253_270.out
    have hns61_2:=NB254_270.out
    have hns61_3:=NB255_270.out
    have hns61_4:=NB262_270.out
    have hms61_0:=NB270_252.out
    have hms61_1:=NB270_253.out
    have hms61_2:=NB270_254.out
    have hms61_3:=NB270_255.out
    have hms61_4:=NB270_262.out
    have hs62 : w60.cell? ⟨gb270,1,none⟩ = some (.int .u64 0):=(kC BK270.out 1).trans rfl
    have hfs62:=blk_frozen BK270.out 1
    have hns62_0:=NB252_270.out
    have hns62_1:=NB253_270.out
    have hns62_2:=NB254_270.out
    have hns62_3:=NB255_270.out
    have hns62_4:=NB262_270.out
    have hms62_0:=NB270_252.out
    have hms62_1:=NB270_253.out
    have hms62_2:=NB270_254.out
    have hms62_3:=NB270_255.out
    have hms62_4:=NB270_262.out
    refine skip_ (w1:=?_) (by rfl) rfl ?_ ?_
    rotate_left
    ·go_simp
     rfl
    refine hK.out _ _ ⟨((cell_far (p:=⟨gb270,_,none⟩) NB262_270.out _).trans (((cell_far (p:=⟨gb270,_,none⟩) NB262_270.out _).trans (hHeld.1)))),((cell_far (p:=⟨gb270,_,none⟩) NB262_270.out _).trans (((cell_far (p:=⟨gb270,_,none⟩) NB262_270.out _).trans (hHeld.2.1)))),((cell_far (p:=⟨gb270,_,none⟩) NB262_270.out _).trans (((cell_far (p:=⟨gb270,_,none⟩) NB262_270.out _).trans (hHeld.2.2.1)))),((cell_far (p:=⟨gb270,_,none⟩) NB262_270.out _).trans (((cell_far (p:=⟨gb270,_,none⟩) NB262_270.out _).trans (hHeld.2.2.2.1)))),((cell_far (p:=⟨gb270,_,none⟩) NB252_270.out _).trans (((cell_far (p:=⟨gb270,_,none⟩) NB252_270.out _).trans (hHeld.2.2.2.2.1)))),((cell_far (p:=⟨gb270,_,none⟩) NB252_270.out _).trans (((cell_far (p:=⟨gb270,_,none⟩) NB252_270.out _).trans (hHeld.2.2.2.2.2.1)))),((cell_far (p:=⟨gb270,_,none⟩) NB252_270.out _).trans (((cell_far (p:=⟨gb270,_,none⟩) NB252_270.out _).trans (hHeld.2.2.2.2.2.2.1)))),((cell_far (p:=⟨gb270,_,none⟩) NB252_270.out _).trans (((cell_far (p:=⟨gb270,_,none⟩) NB252_270.out _).trans (hHeld.2.2.2.2.2.2.2))))⟩ (fun hHeld => ?_)
    clear hK K
    refine pure_ (i:=10) (N:=some 8) (v:=?_) (a':=?_) #[tt,tt,tt,tt,tt,tt,tt,tt,tt,tt,tt] rfl rfl (any_of HT_.out (by kernel_rfl)) (fun _ _ _ h => h) (Or.inl ⟨by rfl,?_⟩) ?_ ?_
    rotate_left
    ·intro w'
     go_simp
     with_reducible rfl
    rotate_left
    ·simp only [Act.put,sA,sZ,sS,i64_w,i32_w]
     rfl
    refine done_ (done_of HT_.out (by kernel_rfl)) ?_
    try go_wp2
    have n0_ : Aside0 (((w60.setCell ⟨gb270,0,none⟩ (.int .u64 t267)).setCell ⟨gb270,1,none⟩ (.int .u64 t268)).heap[gb252]? = some (.cells #[.int .i64 a0_0,.int .i64 a0_1,.int .i64 a0_2,.int .i64 a0_3] 35 (0,0))):=⟨by (with_reducible repeat (first|refine kN ?_ _|refine kD ?_|refine kA ?_ _));refine blk_far ?_ NB252_270.out _;(with_reducible repeat (first|refine kN ?_ _|refine kD ?_|refine kA ?_ _));refine blk_far ?_ NB252_270.out _;(with_reducible repeat (first|refine kN ?_ _|refine kD ?_|refine kA ?_ _));exact BK252.out⟩
    have n1_ : Aside0 (((w60.setCell ⟨gb270,0,none⟩ (.int .u64 t267)).setCell ⟨gb270,1,none⟩ (.int .u64 t268)).heap[gb253]? = some (.cells #[.int .i64 a1_0,.int .i64 a1_1,.int .i64 a1_2,.int .i64 a1_3] 35 (0,0))):=⟨by (with_reducible repeat (first|refine kN ?_ _|refine kD ?_|refine kA ?_ _));refine blk_far ?_ NB253_270.out _;(with_reducible repeat (first|refine kN ?_ _|refine kD ?_|refine kA ?_ _));refine blk_far ?_ NB253_270.out _;(with_reducible repeat (first|refine kN ?_ _|refine kD ?_|refine kA ?_ _));exact BK253.out⟩
    have n2_ : Aside0 (((w60.setCell ⟨gb270,0,none⟩ (.int .u64 t267)).setCell ⟨gb270,1,none⟩ (.int .u64 t268)).heap[gb254]? = some (.cells #[.int .u64 0,.int .u64 0] 25 (0,0))):=⟨by (with_reducible repeat (first|refine kN ?_ _|refine kD ?_|refine kA ?_ _));refine blk_far ?_ NB254_270.out _;(with_reducible repeat (first|refine kN ?_ _|refine kD ?_|refine kA ?_ _));refine blk_far ?_ NB254_270.out _;(with_reducible repeat (first|refine kN ?_ _|refine kD ?_|refine kA ?_ _));exact BK254.out⟩
    have n3_ : Aside0 (((w60.setCell ⟨gb270,0,none⟩ (.int .u64 t267)).setCell ⟨gb270,1,none⟩ (.int .u64 t268)).heap[gb255]? = some (.cells #[.int .u64 0,.int .u64 0] 25 (0,0))):=⟨by (with_reducible repeat (first|refine kN ?_ _|refine kD ?_|refine kA ?_ _));refine blk_far ?_ NB255_270.out _;(with_reducible repeat (first|refine kN ?_ _|refine kD ?_|refine kA ?_ _));refine blk_far ?_ NB255_270.out _;(with_reducible repeat (first|refine kN ?_ _|refine kD ?_|refine kA ?_ _));exact BK255.out⟩
    have n4_ : Aside0 (((w60.setCell ⟨gb270,0,none⟩ (.int .u64 t267)).setCell ⟨gb270,1,none⟩ (.int .u64 t268)).heap[gb262]? = some (.cells #[.int .i64 t258,.int .i64 t259,.int .i64 t260,.int .i64 t261] 35 (0,0))):=⟨by (with_reducible repeat (first|refine kN ?_ _|refine kD ?_|refine kA ?_ _));refine blk_far ?_ NB262_270.out _;(with_reducible repeat (first|refine kN ?_ _|refine kD ?_|refine kA ?_ _));refine blk_far ?_ NB262_270.out _;(with_reducible repeat (first|refine kN ?_ _|refine kD ?_|refine kA ?_ _));exact BK262.out⟩
    have n5_ : Aside0 (((w60.setCell ⟨gb270,0,none⟩ (.int .u64 t267)).setCell ⟨gb270,1,none⟩ (.int .u64 t268)).heap[gb270]? = some (.cells #[.int .u64 t267,.int .u64 t268] 25 (0,0))):=⟨by (with_reducible repeat (first|refine kN ?_ _|refine kD ?_|refine kA ?_ _));refine blk_put (cs:=#[.int .u64 t267,.int .u64 0]) ?_ 1 _ rfl;(with_reducible repeat (first|refine kN ?_ _|refine kD ?_|refine kA ?_ _));refine blk_put (cs:=#[.int .u64 0,.int .u64 0]) ?_ 0 _ rfl;(with_reducible repeat (first|refine kN ?_ _|refine kD ?_|refine kA ?_ _));exact BK270.out⟩
    have n6_ : Aside0 (Below w.heap.size w ((w60.setCell ⟨gb270,0,none⟩ (.int .u64 t267)).setCell ⟨gb270,1,none⟩ (.int .u64 t268))):=⟨by repeat (first|(with_reducible first|exact HB.out|apply bA|apply bN|apply bD|refine bS ?_ GE252.out|refine bS ?_ GE253.out|refine bS ?_ GE254.out|refine bS ?_ GE255.out|refine bS ?_ GE262.out|refine bS ?_ GE270.out)|exact HB.out)⟩
    (try clear BK252)
    (try clear BK253)
    (try clear BK254)
    (try clear BK255)
    (try clear BK262)
    (try clear BK270)
    (try clear HB)
    generalize ((w60.setCell ⟨gb270,0,none⟩ (.int .u64 t267)).setCell ⟨gb270,1,none⟩ (.int .u64 t268)) = w63 at n0_ n1_ n2_ n3_ n4_ n5_ n6_ ⊢
    have BK252:=n0_;have BK253:=n1_;have BK254:=n2_;have BK255:=n3_;have BK262:=n4_;have BK270:=n5_;have HB:=n6_
    clear n0_ n1_ n2_ n3_ n4_ n5_ n6_
    have n0_:=Ak (kD BK252.out)
    have n1_:=Ak (kD BK253.out)
    have n2_:=Ak (kD BK254.out)
    have n3_:=Ak (kD BK255.out)
    have n4_:=Ak (kD BK262.out)
    have n5_:=Ak (kD BK270.out)
    have n6_:=Ak (bD HB.out)
    clear BK252 BK253 BK254 BK255 BK262 BK270 HB
    have BK252:=n0_;have BK253:=n1_;have BK254:=n2_;have BK255:=n3_;have BK262:=n4_;have BK270:=n5_;have HB:=n6_
    clear n0_ n1_ n2_ n3_ n4_ n5_ n6_
    refine start_ (n:=11) (S:=fun w' => w'.cell? ⟨gb262,0,none⟩ = some (.int .i64 t258)∧w'.cell? ⟨gb262,1,none⟩ = some (.int .i64 t259)∧w'.cell? ⟨gb262,2,none⟩ = some (.int .i64 t260)∧w'.cell? ⟨gb262,3,none⟩ = some (.int .i64 t261)∧w'.cell? ⟨gb252,0,none⟩ = some (.int .i64 a0_0)∧w'.cell? ⟨gb252,1,none⟩ = some (.int .i64 a0_1)∧w'.cell? ⟨gb252,2,none⟩ = some (.int .i64 a0_2)∧w'.cell? ⟨gb252,3,none⟩ = some (.int .i64 a0_3)) (ds:=[]) #[ff,ff,ff,ff,ff,ff,ff,ff,ff,ff,ff] (by kernel_rfl) rfl rfl ⟨(kC BK262.out 0).trans rfl,(kC BK262.out 1).trans rfl,(kC BK262.out 2).trans rfl,(kC BK262.out 3).trans rfl,(kC BK252.out 0).trans rfl,(kC BK252.out 1).trans rfl,(kC BK252.out 2).trans rfl,(kC BK252.out 3).trans rfl⟩ (fun hHeld => ?_);refine with_tabW gazetteerref09_Grows.tab5 gazetteerref09_Grows.bits5 (fun HT_ HW_ => ?_)
    generalize w63.drew = w64 at BK252 BK253 BK254 BK255 BK262 BK270 HB hHeld ⊢
    refine take_ (i:=0) (N:=some 33) (v:=?_) (a':=?_) #[tt,ff,ff,ff,ff,ff,ff,ff,ff,ff,ff] rfl rfl (take_ofW HT_.out HW_.out (by kernel_rfl)) (fun _ _ _ h => h) (Or.inl ⟨by rfl,?_⟩) hHeld ?_ ?_
    rotate_left
    ·rintro w' ⟨s0,s1,s2,s3,s4,s5,s6,s7⟩
     go_simp
     with_reducible rfl
    rotate_left
    ·simp only [Act.put,sA,sZ,sS,i64_w,i32_w]
     rfl
    refine take_ (i:=2) (N:=some 35) (v:=?_) (a':=?_) #[tt,ff,tt,ff,ff,ff,ff,ff,ff,ff,ff] rfl rfl (take_ofW HT_.out HW_.out (by kernel_rfl)) (fun _ _ _ h => h) (Or.inl ⟨by rfl,?_⟩) hHeld ?_ ?_
    rotate_left
    ·rintro w' ⟨s0,s1,s2,s3,s4,s5,s6,s7⟩
     go_simp
     with_reducible rfl
    rotate_left
    ·simp only [Act.put,sA,sZ,sS,i64_w,i32_w]
     rfl
    refine join_ (σ:=Nat) 2 #[tt,tt,tt,tt,tt,tt,tt,tt,tt,ff,ff] (fun s_ => [(34,.agg #[.int .u64 t271,.int .u64 t272]),(36,.agg #[.int .u64 t273,.int .u64 t274]),(37,.tuple #[.agg #[.int .u64 t275,.int .u64 t276],.bool t277]),(9,.pointer (some ⟨s_,0,none⟩)),(32,.tuple #[.agg #[.int .u64 t275,.int .u64 t276],.bool t277]),(38,.agg #[.int .u64 t275,.int .u64 t276]),(39,.bool t277)]) (fun s_ w' => (w'.cell? ⟨gb262,0,none⟩ = some (.int .i64 t258)∧w'.cell? ⟨gb262,1,none⟩ = some (.int .i64 t259)∧w'.cell? ⟨gb262,2,none⟩ = some (.int .i64 t260)∧w'.cell? ⟨gb262,3,none⟩ = some (.int .i64 t261)∧w'.cell? ⟨gb252,0,none⟩ = some (.int .i64 a0_0)∧w'.cell? ⟨gb252,1,none⟩ = some (.int .i64 a0_1)∧w'.cell? ⟨gb252,2,none⟩ = some (.int .i64 a0_2)∧w'.cell? ⟨gb252,3,none⟩ = some (.int .i64 a0_3))∧(w'.heap[gb252]? = some (.cells #[.int .i64 a0_0,.int .i64 a0_1,.int .i64 a0_2,.int .i64 a0_3] 35 (0,0)))∧(w'.heap[gb253]? = some (.cells #[.int .i64 a1_0,.int .i64 a1_1,.int .i64 a1_2,.int .i64 a1_3] 35 (0,0)))∧(w'.heap[gb254]? = some (.cells #[.int .u64 0,.int .u64 0] 25 (0,0)))∧(w'.heap[gb255]? = some (.cells #[.int .u64 0,.int .u64 0] 25 (0,0)))∧(w'.heap[gb262]? = some (.cells #[.int .i64 t258,.int .i64 t259,.int .i64 t260,.int .i64 t261] 35 (0,0)))∧(w'.heap[gb270]? = some (.cells #[.int .u64 t267,.int .u64 t268] 25 (0,0)))∧(w'.heap[s_]? = some (.cells #[.int .u64 0,.int .u64 0] 25 (0,0)))∧(w.heap.size ≤ s_)∧(w.heap.size ≤ s_)∧(gb252 ≠ s_)∧(s_ ≠ gb252)∧(gb253 ≠ s_)∧(s_ ≠ gb253)∧(gb254 ≠ s_)∧(s_ ≠ gb254)∧(gb255 ≠ s_)∧(s_ ≠ gb255)∧(gb262 ≠ s_)∧(s_ ≠ gb262)∧(gb270 ≠ s_)∧(s_ ≠ gb270)∧(Below w.heap.size w w')) ?_ ?_
    rotate_left
    ·intro hCont
     refine two_ (i:=1) (j:=8) (Ni:=some 34) (Nj:=some 9) #[tt,tt,tt,ff,ff,ff,ff,ff,ff,ff,ff] #[tt,ff,tt,ff,ff,ff,ff,ff,tt,ff,ff] rfl rfl rfl rfl (two_of HT_.out (by kernel_rfl)) (by decide) (by decide) (fun K hK => ?_) (fun K hK => ?_)
     ·skip
      refine goes_ Try.func27 (by kernel_rfl) rfl #[.agg #[.int .i64 t258,.int .i64 t259,.int .i64 t260,.int .i64 t261]] (by rfl) rfl rfl (by (try simp only [List.map_toArray,List.map_cons,List.map_nil]);first|done|rfl|(simp only [List.length_drop,List.length_take];rfl)) ?_
      with_reducible refine (gazetteerref07_Margin.calls t258 t259 t260 t261 t271 t272 _ A37.out).mono ?_
      rintro e w65 ⟨rfl,hb⟩
      refine ⟨_,rfl,?_⟩
      have n0_:=Kb BK252 hb
      have n1_:=Kb BK253 hb
      have n2_:=Kb BK254 hb
      have n3_:=Kb BK255 hb
      have n4_:=Kb BK262 hb
      have n5_:=Kb BK270 hb
      have n6_:=Kh HB hb
      clear BK252 BK253 BK254 BK255 BK262 BK270 HB
      have BK252:=n0_;have BK253:=n1_;have BK254:=n2_;have BK255:=n3_;have BK262:=n4_;have BK270:=n5_;have HB:=n6_
      clear n0_ n1_ n2_ n3_ n4_ n5_ n6_
      (try clear hb)
      (try clear hb2)
      (try clear hk)
      (try clear hi)
      refine hK.out _ _ ⟨(kC BK262.out 0).trans rfl,(kC BK262.out 1).trans rfl,(kC BK262.out 2).trans rfl,(kC BK262.out 3).trans rfl,(kC BK252.out 0).trans rfl,(kC BK252.out 1).trans rfl,(kC BK252.out 2).trans rfl,(kC BK252.out 3).trans rfl⟩ (fun hHeld => ?_)
      clear hK K
      refine norm_ (a':=?_) ?_ ?_
      rotate_left
      ·show Act.put _ (some 34) _ = _
       simp only [Act.put,sA,sZ,sS,i64_w,i32_w]
       rfl
      refine two_ (i:=3) (j:=8) (Ni:=some 36) (Nj:=some 9) #[tt,tt,tt,tt,ff,ff,ff,ff,ff,ff,ff] #[tt,tt,tt,ff,ff,ff,ff,ff,tt,ff,ff] rfl rfl rfl rfl (two_of HT_.out (by kernel_rfl)) (by decide) (by decide) (fun K hK => ?_) (fun K hK => ?_)
      ·skip
       refine goes_ Try.func27 (by kernel_rfl) rfl #[.agg #[.int .i64 a0_0,.int .i64 a0_1,.int .i64 a0_2,.int .i64 a0_3]] (by rfl) rfl rfl (by (try simp only [List.map_toArray,List.map_cons,List.map_nil]);first|done|rfl|(simp only [List.length_drop,List.length_take];rfl)) ?_
       with_reducible refine (gazetteerref07_Margin.calls a0_0 a0_1 a0_2 a0_3 t273 t274 _ A38.out).mono ?_
       rintro e w66 ⟨rfl,hb⟩
       refine ⟨_,rfl,?_⟩
       have n0_:=Kb BK252 hb
       have n1_:=Kb BK253 hb
       have n2_:=Kb BK254 hb
       have n3_:=Kb BK255 hb
       have n4_:=Kb BK262 hb
       have n5_:=Kb BK270 hb
       have n6_:=Kh HB hb
       clear BK252 BK253 BK254 BK255 BK262 BK270 HB
       have BK252:=n0_;have BK253:=n1_;have BK254:=n2_;have BK255:=n3_;have BK262:=n4_;have BK270:=n5_;have HB:=n6_
       clear n0_ n1_ n2_ n3_ n4_ n5_ n6_
       (try clear hb)
       (try clear hb2)
       (try clear hk)
       (try clear hi)
       refine hK.out _ _ ⟨(kC BK262.out 0).trans rfl,(kC BK262.out 1).trans rfl,(kC BK262.out 2).trans rfl,(kC BK262.out 3).trans rfl,(kC BK252.out 0).trans rfl,(kC BK252.out 1).trans rfl,(kC BK252.out 2).trans rfl,(kC BK252.out 3).trans rfl⟩ (fun hHeld => ?_)
       clear hK K
       refine norm_ (a':=?_) ?_ ?_
       rotate_left
       ·show Act.put _ (some 36) _ = _
        simp only [Act.put,sA,sZ,sS,i64_w,i32_w]
        rfl
       refine two_ (i:=4) (j:=8) (Ni:=some 37) (Nj:=some 9) #[tt,tt,tt,tt,tt,ff,ff,ff,ff,ff,ff] #[tt,tt,tt,tt,ff,ff,ff,ff,tt,ff,ff] rfl rfl rfl rfl (two_of HT_.out (by kernel_rfl)) (by decide) (by decide) (fun K hK => ?_) (fun K hK => ?_)
       ·skip
        refine goes_ Try.func30 (by kernel_rfl) rfl #[.agg #[.int .u64 t271,.int .u64 t272],.agg #[.int .u64 t273,.int .u64 t274]] (by rfl) rfl rfl (by (try simp only [List.map_toArray,List.map_cons,List.map_nil]);first|done|rfl|(simp only [List.length_drop,List.length_take];rfl)) ?_
        with_reducible refine (gazetteerref07_Sub.calls t271 t272 t273 t274 t275 t276 t277 _ A39.out).mono ?_
        rintro e w67 ⟨rfl,hb⟩
        refine ⟨_,rfl,?_⟩
        have n0_:=Kb BK252 hb
        have n1_:=Kb BK253 hb
        have n2_:=Kb BK254 hb
        have n3_:=Kb BK255 hb
        have n4_:=Kb BK262 hb
        have n5_:=Kb BK270 hb
        have n6_:=Kh HB hb
        clear BK252 BK253 BK254 BK255 BK262 BK270 HB
        have BK252:=n0_;have BK253:=n1_;have BK254:=n2_;have BK255:=n3_;have BK262:=n4_;have BK270:=n5_;have HB:=n6_
        clear n0_ n1_ n2_ n3_ n4_ n5_ n6_
        (try clear hb)
        (try clear hb2)
        (try clear hk)
        (try clear hi)
        refine hK.out _ _ ⟨(kC BK262.out 0).trans rfl,(kC BK262.out 1).trans rfl,(kC BK262.out 2).trans rfl,(kC BK262.out 3).trans rfl,(kC BK252.out 0).trans rfl,(kC BK252.out 1).trans rfl,(kC BK252.out 2).trans rfl,(kC BK252.out 3).trans rfl⟩ (fun hHeld => ?_)
        clear hK K
        refine norm_ (a':=?_) ?_ ?_
        rotate_left
        ·show Act.put _ (some 37) _ = _
         simp only [Act.put,sA,sZ,sS,i64_w,i32_w]
         rfl
        refine pure_ (i:=5) (N:=some 32) (v:=?_) (a':=?_) #[tt,tt,tt,tt,tt,tt,ff,ff,ff,ff,ff] rfl rfl (any_of HT_.out (by kernel_rfl)) (fun _ _ _ h => h) (Or.inl ⟨by rfl,?_⟩) ?_ ?_
        rotate_left
        ·intro w'
         go_simp
         with_reducible rfl
        rotate_left
        ·simp only [Act.put,sA,sZ,sS,i64_w,i32_w]
         rfl
        refine pure_ (i:=6) (N:=some 38) (v:=?_) (a':=?_) #[tt,tt,tt,tt,tt,tt,tt,ff,ff,ff,ff] rfl rfl (any_of HT_.out (by kernel_rfl)) (fun _ _ _ h => h) (Or.inl ⟨by rfl,?_⟩) ?_ ?_
        rotate_left
        ·intro w'
         go_simp
         with_reducible rfl
        rotate_left
        ·simp only [Act.put,sA,sZ,sS,i64_w,i32_w]
         rfl
        refine pure_ (i:=7) (N:=some 39) (v:=?_) (a':=?_) #[tt,tt,tt,tt,tt,tt,tt,tt,ff,ff,ff] rfl rfl (any_of HT_.out (by kernel_rfl)) (fun _ _ _ h => h) (Or.inl ⟨by rfl,?_⟩) ?_ ?_
        rotate_left
        ·intro w'
         go_simp
         with_reducible rfl
        rotate_left
        ·simp only [Act.put,sA,sZ,sS,i64_w,i32_w]
         rfl
        refine one_ (i:=8) (N:=some 9) #[tt,tt,tt,tt,tt,tt,tt,tt,tt,ff,ff] rfl rfl (one_of HT_.out (by kernel_rfl)) (by decide) (fun K hK => ?_)
        refine box_step ?hg (N:=9) ?hd (cs:=#[.int .u64 0,.int .u64 0]) (t:=25) ?hr ?_;(case hd => rfl);(case hg => rfl);(case hr => first|(go_simp;done)|(go_simp;rfl))
        intro gb278 hg w68 hbox hb
        have n0_:=Kb BK252 hb
        have n1_:=Kb BK253 hb
        have n2_:=Kb BK254 hb
        have n3_:=Kb BK255 hb
        have n4_:=Kb BK262 hb
        have n5_:=Kb BK270 hb
        have n6_:=Kh HB hb
        have n7_:=Ak (hbox)
        have n8_:=Kz hg HB
        have n9_:=Kz hg HB
        have n10_:=Kl hg BK252
        have n11_:=Km hg BK252
        have n12_:=Kl hg BK253
        have n13_:=Km hg BK253
        have n14_:=Kl hg BK254
        have n15_:=Km hg BK254
        have n16_:=Kl hg BK255
        have n17_:=Km hg BK255
        have n18_:=Kl hg BK262
        have n19_:=Km hg BK262
        have n20_:=Kl hg BK270
        have n21_:=Km hg BK270
        clear BK252 BK253 BK254 BK255 BK262 BK270 HB
        have BK252:=n0_;have BK253:=n1_;have BK254:=n2_;have BK255:=n3_;have BK262:=n4_;have BK270:=n5_;have HB:=n6_;have BK278:=n7_;have GW278:=n8_;have GE278:=n9_;have NB252_278:=n10_;have NB278_252:=n11_;have NB253_278:=n12_;have NB278_253:=n13_;have NB254_278:=n14_;have NB278_254:=n15_;have NB255_278:=n16_;have NB278_255:=n17_;have NB262_278:=n18_;have NB278_262:=n19_;have NB270_278:=n20_;have NB278_270:=n21_
        clear n0_ n1_ n2_ n3_ n4_ n5_ n6_ n7_ n8_ n9_ n10_ n11_ n12_ n13_ n14_ n15_ n16_ n17_ n18_ n19_ n20_ n21_ hb hbox hg
        refine hK.out _ _ ⟨(kC BK262.out 0).trans rfl,(kC BK262.out 1).trans rfl,(kC BK262.out 2).trans rfl,(kC BK262.out 3).trans rfl,(kC BK252.out 0).trans rfl,(kC BK252.out 1).trans rfl,(kC BK252.out 2).trans rfl,(kC BK252.out 3).trans rfl⟩ (fun hHeld => ?_)
        clear hK K
        refine norm_ (a':=?_) ?_ ?_
        rotate_left
        ·show Act.put _ (some 9) _ = _
         simp only [Act.put,sA,sZ,sS,i64_w,i32_w]
         rfl
        exact norm_ (by simp only [putAll,Act.put,sA,sZ,sS]) (hCont (gb278) _ ⟨hHeld,BK252.out,BK253.out,BK254.out,BK255.out,BK262.out,BK270.out,BK278.out,GW278.out,GE278.out,NB252_278.out,NB278_252.out,NB253_278.out,NB278_253.out,NB254_278.out,NB278_254.out,NB255_278.out,NB278_255.out,NB262_278.out,NB278_262.out,NB270_278.out,NB278_270.out,HB.out⟩)
       ·skip
        refine box_step ?hg (N:=9) ?hd (cs:=#[.int .u64 0,.int .u64 0]) (t:=25) ?hr ?_;(case hd => rfl);(case hg => rfl);(case hr => first|(go_simp;done)|(go_simp;rfl))
        intro gb278 hg w67 hbox hb
        have n0_:=Kb BK252 hb
        have n1_:=Kb BK253 hb
        have n2_:=Kb BK254 hb
        have n3_:=Kb BK255 hb
        have n4_:=Kb BK262 hb
        have n5_:=Kb BK270 hb
        have n6_:=Kh HB hb
        have n7_:=Ak (hbox)
        have n8_:=Kz hg HB
        have n9_:=Kz hg HB
        have n10_:=Kl hg BK252
        have n11_:=Km hg BK252
        have n12_:=Kl hg BK253
        have n13_:=Km hg BK253
        have n14_:=Kl hg BK254
        have n15_:=Km hg BK254
        have n16_:=Kl hg BK255
        have n17_:=Km hg BK255
        have n18_:=Kl hg BK262
        have n19_:=Km hg BK262
        have n20_:=Kl hg BK270
        have n21_:=Km hg BK270
        clear BK252 BK253 BK254 BK255 BK262 BK270 HB
        have BK252:=n0_;have BK253:=n1_;have BK254:=n2_;have BK255:=n3_;have BK262:=n4_;have BK270:=n5_;have HB:=n6_;have BK278:=n7_;have GW278:=n8_;have GE278:=n9_;have NB252_278:=n10_;have NB278_252:=n11_;have NB253_278:=n12_;have NB278_253:=n13_;have NB254_278:=n14_;have NB278_254:=n15_;have NB255_278:=n16_;have NB278_255:=n17_;have NB262_278:=n18_;have NB278_262:=n19_;have NB270_278:=n20_;have NB278_270:=n21_
        clear n0_ n1_ n2_ n3_ n4_ n5_ n6_ n7_ n8_ n9_ n10_ n11_ n12_ n13_ n14_ n15_ n16_ n17_ n18_ n19_ n20_ n21_ hb hbox hg
        refine hK.out _ _ ⟨(kC BK262.out 0).trans rfl,(kC BK262.out 1).trans rfl,(kC BK262.out 2).trans rfl,(kC BK262.out 3).trans rfl,(kC BK252.out 0).trans rfl,(kC BK252.out 1).trans rfl,(kC BK252.out 2).trans rfl,(kC BK252.out 3).trans rfl⟩ (fun hHeld => ?_)
        clear hK K
        refine norm_ (a':=?_) ?_ ?_
        rotate_left
        ·show Act.put _ (some 9) _ = _
         simp only [Act.put,sA,sZ,sS,i64_w,i32_w]
         rfl
        refine one_ (i:=4) (N:=some 37) #[tt,tt,tt,tt,tt,ff,ff,ff,tt,ff,ff] rfl rfl (one_of HT_.out (by kernel_rfl)) (by decide) (fun K hK => ?_)
        refine goes_ Try.func30 (by kernel_rfl) rfl #[.agg #[.int .u64 t271,.int .u64 t272],.agg #[.int .u64 t273,.int .u64 t274]] (by rfl) rfl rfl (by (try simp only [List.map_toArray,List.map_cons,List.map_nil]);first|done|rfl|(simp only [List.length_drop,List.length_take];rfl)) ?_
        with_reducible refine (gazetteerref07_Sub.calls t271 t272 t273 t274 t275 t276 t277 _ A39.out).mono ?_
        rintro e w68 ⟨rfl,hb⟩
        refine ⟨_,rfl,?_⟩
        have n0_:=Kb BK252 hb
        have n1_:=Kb BK253 hb
        have n2_:=Kb BK254 hb
        have n3_:=Kb BK255 hb
        have n4_:=Kb BK262 hb
        have n5_:=Kb BK270 hb
        have n6_:=Kb BK278 hb
        have n7_:=Kh HB hb
        clear BK252 BK253 BK254 BK255 BK262 BK270 BK278 HB
        have BK252:=n0_;have BK253:=n1_;have BK254:=n2_;have BK255:=n3_;have BK262:=n4_;have BK270:=n5_;have BK278:=n6_;have HB:=n7_
        clear n0_ n1_ n2_ n3_ n4_ n5_ n6_ n7_
        (try clear hb)
        (try clear hb2)
        (try clear hk)
        (try clear hi)
        refine hK.out _ _ ⟨(kC BK262.out 0).trans rfl,(kC BK262.out 1).trans rfl,(kC BK262.out 2).trans rfl,(kC BK262.out 3).trans rfl,(kC BK252.out 0).trans rfl,(kC BK252.out 1).trans rfl,(kC BK252.out 2).trans rfl,(kC BK252.out 3).trans rfl⟩ (fun hHeld => ?_)
        clear hK K
        refine norm_ (a':=?_) ?_ ?_
        rotate_left
        ·show Act.put _ (some 37) _ = _
         simp only [Act.put,sA,sZ,sS,i64_w,i32_w]
         rfl
        refine pure_ (i:=5) (N:=some 32) (v:=?_) (a':=?_) #[tt,tt,tt,tt,tt,tt,ff,ff,tt,ff,ff] rfl rfl (any_of HT_.out (by kernel_rfl)) (fun _ _ _ h => h) (Or.inl ⟨by rfl,?_⟩) ?_ ?_
        rotate_left
        ·intro w'
         go_simp
         with_reducible rfl
        rotate_left
        ·simp only [Act.put,sA,sZ,sS,i64_w,i32_w]
         rfl
        refine pure_ (i:=6) (N:=some 38) (v:=?_) (a':=?_) #[tt,tt,tt,tt,tt,tt,tt,ff,tt,ff,ff] rfl rfl (any_of HT_.out (by kernel_rfl)) (fun _ _ _ h => h) (Or.inl ⟨by rfl,?_⟩) ?_ ?_
        rotate_left
        ·intro w'
         go_simp
         with_reducible rfl
        rotate_left
        ·simp only [Act.put,sA,sZ,sS,i64_w,i32_w]
         rfl
        refine pure_ (i:=7) (N:=some 39) (v:=?_) (a':=?_) #[tt,tt,tt,tt,tt,tt,tt,tt,tt,ff,ff] rfl rfl (any_of HT_.out (by kernel_rfl)) (fun _ _ _ h => h) (Or.inl ⟨by rfl,?_⟩) ?_ ?_
        rotate_left
        ·intro w'
         go_simp
         with_reducible rfl
        rotate_left
        ·simp only [Act.put,sA,sZ,sS,i64_w,i32_w]
         rfl
        exact norm_ (by simp only [putAll,Act.put,sA,sZ,sS]) (hCont (gb278) _ ⟨hHeld,BK252.out,BK253.out,BK254.out,BK255.out,BK262.out,BK270.out,BK278.out,GW278.out,GE278.out,NB252_278.out,NB278_252.out,NB253_278.out,NB278_253.out,NB254_278.out,NB278_254.out,NB255_278.out,NB278_255.out,NB262_278.out,NB278_262.out,NB270_278.out,NB278_270.out,HB.out⟩)
      ·skip
       refine box_step ?hg (N:=9) ?hd (cs:=#[.int .u64 0,.int .u64 0]) (t:=25) ?hr ?_;(case hd => rfl);(case hg => rfl);(case hr => first|(go_simp;done)|(go_simp;rfl))
       intro gb278 hg w66 hbox hb
       have n0_:=Kb BK252 hb
       have n1_:=Kb BK253 hb
       have n2_:=Kb BK254 hb
       have n3_:=Kb BK255 hb
       have n4_:=Kb BK262 hb
       have n5_:=Kb BK270 hb
       have n6_:=Kh HB hb
       have n7_:=Ak (hbox)
       have n8_:=Kz hg HB
       have n9_:=Kz hg HB
       have n10_:=Kl hg BK252
       have n11_:=Km hg BK252
       have n12_:=Kl hg BK253
       have n13_:=Km hg BK253
       have n14_:=Kl hg BK254
       have n15_:=Km hg BK254
       have n16_:=Kl hg BK255
       have n17_:=Km hg BK255
       have n18_:=Kl hg BK262
       have n19_:=Km hg BK262
       have n20_:=Kl hg BK270
       have n21_:=Km hg BK270
       clear BK252 BK253 BK254 BK255 BK262 BK270 HB
       have BK252:=n0_;have BK253:=n1_;have BK254:=n2_;have BK255:=n3_;have BK262:=n4_;have BK270:=n5_;have HB:=n6_;have BK278:=n7_;have GW278:=n8_;have GE278:=n9_;have NB252_278:=n10_;have NB278_252:=n11_;have NB253_278:=n12_;have NB278_253:=n13_;have NB254_278:=n14_;have NB278_254:=n15_;have NB255_278:=n16_;have NB278_255:=n17_;have NB262_278:=n18_;have NB278_262:=n19_;have NB270_278:=n20_;have NB278_270:=n21_
       clear n0_ n1_ n2_ n3_ n4_ n5_ n6_ n7_ n8_ n9_ n10_ n11_ n12_ n13_ n14_ n15_ n16_ n17_ n18_ n19_ n20_ n21_ hb hbox hg
       refine hK.out _ _ ⟨(kC BK262.out 0).trans rfl,(kC BK262.out 1).trans rfl,(kC BK262.out 2).trans rfl,(kC BK262.out 3).trans rfl,(kC BK252.out 0).trans rfl,(kC BK252.out 1).trans rfl,(kC BK252.out 2).trans rfl,(kC BK252.out 3).trans rfl⟩ (fun hHeld => ?_)
       clear hK K
       refine norm_ (a':=?_) ?_ ?_
       rotate_left
       ·show Act.put _ (some 9) _ = _
        simp only [Act.put,sA,sZ,sS,i64_w,i32_w]
        rfl
       refine one_ (i:=3) (N:=some 36) #[tt,tt,tt,tt,ff,ff,ff,ff,tt,ff,ff] rfl rfl (one_of HT_.out (by kernel_rfl)) (by decide) (fun K hK => ?_)
       refine goes_ Try.func27 (by kernel_rfl) rfl #[.agg #[.int .i64 a0_0,.int .i64 a0_1,.int .i64 a0_2,.int .i64 a0_3]] (by rfl) rfl rfl (by (try simp only [List.map_toArray,List.map_cons,List.map_nil]);first|done|rfl|(simp only [List.length_drop,List.length_take];rfl)) ?_
       with_reducible refine (gazetteerref07_Margin.calls a0_0 a0_1 a0_2 a0_3 t273 t274 _ A38.out).mono ?_
       rintro e w67 ⟨rfl,hb⟩
       refine ⟨_,rfl,?_⟩
       have n0_:=Kb BK252 hb
       have n1_:=Kb BK253 hb
       have n2_:=Kb BK254 hb
       have n3_:=Kb BK255 hb
       have n4_:=Kb BK262 hb
       have n5_:=Kb BK270 hb
       have n6_:=Kb BK278 hb
       have n7_:=Kh HB hb
       clear BK252 BK253 BK254 BK255 BK262 BK270 BK278 HB
       have BK252:=n0_;have BK253:=n1_;have BK254:=n2_;have BK255:=n3_;have BK262:=n4_;have BK270:=n5_;have BK278:=n6_;have HB:=n7_
       clear n0_ n1_ n2_ n3_ n4_ n5_ n6_ n7_
       (try clear hb)
       (try clear hb2)
       (try clear hk)
       (try clear hi)
       refine hK.out _ _ ⟨(kC BK262.out 0).trans rfl,(kC BK262.out 1).trans rfl,(kC BK262.out 2).trans rfl,(kC BK262.out 3).trans rfl,(kC BK252.out 0).trans rfl,(kC BK252.out 1).trans rfl,(kC BK252.out 2).trans rfl,(kC BK252.out 3).trans rfl⟩ (fun hHeld => ?_)
       clear hK K
       refine norm_ (a':=?_) ?_ ?_
       rotate_left
       ·show Act.put _ (some 36) _ = _
        simp only [Act.put,sA,sZ,sS,i64_w,i32_w]
        rfl
       refine one_ (i:=4) (N:=some 37) #[tt,tt,tt,tt,tt,ff,ff,ff,tt,ff,ff] rfl rfl (one_of HT_.out (by kernel_rfl)) (by decide) (fun K hK => ?_)
       refine goes_ Try.func30 (by kernel_rfl) rfl #[.agg #[.int .u64 t271,.int .u64 t272],.agg #[.int .u64 t273,.int .u64 t274]] (by rfl) rfl rfl (by (try simp only [List.map_toArray,List.map_cons,List.map_nil]);first|done|rfl|(simp only [List.length_drop,List.length_take];rfl)) ?_
       with_reducible refine (gazetteerref07_Sub.calls t271 t272 t273 t274 t275 t276 t277 _ A39.out).mono ?_
       rintro e w68 ⟨rfl,hb⟩
       refine ⟨_,rfl,?_⟩
       have n0_:=Kb BK252 hb
       have n1_:=Kb BK253 hb
       have n2_:=Kb BK254 hb
       have n3_:=Kb BK255 hb
       have n4_:=Kb BK262 hb
       have n5_:=Kb BK270 hb
       have n6_:=Kb BK278 hb
       have n7_:=Kh HB hb
       clear BK252 BK253 BK254 BK255 BK262 BK270 BK278 HB
       have BK252:=n0_;have BK253:=n1_;have BK254:=n2_;have BK255:=n3_;have BK262:=n4_;have BK270:=n5_;have BK278:=n6_;have HB:=n7_
       clear n0_ n1_ n2_ n3_ n4_ n5_ n6_ n7_
       (try clear hb)
       (try clear hb2)
       (try clear hk)
       (try clear hi)
       refine hK.out _ _ ⟨(kC BK262.out 0).trans rfl,(kC BK262.out 1).trans rfl,(kC BK262.out 2).trans rfl,(kC BK262.out 3).trans rfl,(kC BK252.out 0).trans rfl,(kC BK252.out 1).trans rfl,(kC BK252.out 2).trans rfl,(kC BK252.out 3).trans rfl⟩ (fun hHeld => ?_)
       clear hK K
       refine norm_ (a':=?_) ?_ ?_
       rotate_left
       ·show Act.put _ (some 37) _ = _
        simp only [Act.put,sA,sZ,sS,i64_w,i32_w]
        rfl
       refine pure_ (i:=5) (N:=some 32) (v:=?_) (a':=?_) #[tt,tt,tt,tt,tt,tt,ff,ff,tt,ff,ff] rfl rfl (any_of HT_.out (by kernel_rfl)) (fun _ _ _ h => h) (Or.inl ⟨by rfl,?_⟩) ?_ ?_
       rotate_left
       ·intro w'
        go_simp
        with_reducible rfl
       rotate_left
       ·simp only [Act.put,sA,sZ,sS,i64_w,i32_w]
        rfl
       refine pure_ (i:=6) (N:=some 38) (v:=?_) (a':=?_) #[tt,tt,tt,tt,tt,tt,tt,ff,tt,ff,ff] rfl rfl (any_of HT_.out (by kernel_rfl)) (fun _ _ _ h => h) (Or.inl ⟨by rfl,?_⟩) ?_ ?_
       rotate_left
       ·intro w'
        go_simp
        with_reducible rfl
       rotate_left
       ·simp only [Act.put,sA,sZ,sS,i64_w,i32_w]
        rfl
       refine pure_ (i:=7) (N:=some 39) (v:=?_) (a':=?_) #[tt,tt,tt,tt,tt,tt,tt,tt,tt,ff,ff] rfl rfl (any_of HT_.out (by kernel_rfl)) (fun _ _ _ h => h) (Or.inl ⟨by rfl,?_⟩) ?_ ?_
       rotate_left
       ·intro w'
        go_simp
        with_reducible rfl
       rotate_left
       ·simp only [Act.put,sA,sZ,sS,i64_w,i32_w]
        rfl
       exact norm_ (by simp only [putAll,Act.put,sA,sZ,sS]) (hCont (gb278) _ ⟨hHeld,BK252.out,BK253.out,BK254.out,BK255.out,BK262.out,BK270.out,BK278.out,GW278.out,GE278.out,NB252_278.out,NB278_252.out,NB253_278.out,NB278_253.out,NB254_278.out,NB278_254.out,NB255_278.out,NB278_255.out,NB262_278.out,NB278_262.out,NB270_278.out,NB278_270.out,HB.out⟩)
     ·skip
      refine box_step ?hg (N:=9) ?hd (cs:=#[.int .u64 0,.int .u64 0]) (t:=25) ?hr ?_;(case hd => rfl);(case hg => rfl);(case hr => first|(go_simp;done)|(go_simp;rfl))
      intro gb278 hg w65 hbox hb
      have n0_:=Kb BK252 hb
      have n1_:=Kb BK253 hb
      have n2_:=Kb BK254 hb
      have n3_:=Kb BK255 hb
      have n4_:=Kb BK262 hb
      have n5_:=Kb BK270 hb
      have n6_:=Kh HB hb
      have n7_:=Ak (hbox)
      have n8_:=Kz hg HB
      have n9_:=Kz hg HB
      have n10_:=Kl hg BK252
      have n11_:=Km hg BK252
      have n12_:=Kl hg BK253
      have n13_:=Km hg BK253
      have n14_:=Kl hg BK254
      have n15_:=Km hg BK254
      have n16_:=Kl hg BK255
      have n17_:=Km hg BK255
      have n18_:=Kl hg BK262
      have n19_:=Km hg BK262
      have n20_:=Kl hg BK270
      have n21_:=Km hg BK270
      clear BK252 BK253 BK254 BK255 BK262 BK270 HB
      have BK252:=n0_;have BK253:=n1_;have BK254:=n2_;have BK255:=n3_;have BK262:=n4_;have BK270:=n5_;have HB:=n6_;have BK278:=n7_;have GW278:=n8_;have GE278:=n9_;have NB252_278:=n10_;have NB278_252:=n11_;have NB253_278:=n12_;have NB278_253:=n13_;have NB254_278:=n14_;have NB278_254:=n15_;have NB255_278:=n16_;have NB278_255:=n17_;have NB262_278:=n18_;have NB278_262:=n19_;have NB270_278:=n20_;have NB278_270:=n21_
      clear n0_ n1_ n2_ n3_ n4_ n5_ n6_ n7_ n8_ n9_ n10_ n11_ n12_ n13_ n14_ n15_ n16_ n17_ n18_ n19_ n20_ n21_ hb hbox hg
      refine hK.out _ _ ⟨(kC BK262.out 0).trans rfl,(kC BK262.out 1).trans rfl,(kC BK262.out 2).trans rfl,(kC BK262.out 3).trans rfl,(kC BK252.out 0).trans rfl,(kC BK252.out 1).trans rfl,(kC BK252.out 2).trans rfl,(kC BK252.out 3).trans rfl⟩ (fun hHeld => ?_)
      clear hK K
      refine norm_ (a':=?_) ?_ ?_
      rotate_left
      ·show Act.put _ (some 9) _ = _
       simp only [Act.put,sA,sZ,sS,i64_w,i32_w]
       rfl
      refine one_ (i:=1) (N:=some 34) #[tt,tt,tt,ff,ff,ff,ff,ff,tt,ff,ff] rfl rfl (one_of HT_.out (by kernel_rfl)) (by decide) (fun K hK => ?_)
      refine goes_ Try.func27 (by kernel_rfl) rfl #[.agg #[.int .i64 t258,.int .i64 t259,.int .i64 t260,.int .i64 t261]] (by rfl) rfl rfl (by (try simp only [List.map_toArray,List.map_cons,List.map_nil]);first|done|rfl|(simp only [List.length_drop,List.length_take];rfl)) ?_
      with_reducible refine (gazetteerref07_Margin.calls t258 t259 t260 t261 t271 t272 _ A37.out).mono ?_
      rintro e w66 ⟨rfl,hb⟩
      refine ⟨_,rfl,?_⟩
      have n0_:=Kb BK252 hb
      have n1_:=Kb BK253 hb
      have n2_:=Kb BK254 hb
      have n3_:=Kb BK255 hb
      have n4_:=Kb BK262 hb
      have n5_:=Kb BK270 hb
      have n6_:=Kb BK278 hb
      have n7_:=Kh HB hb
      clear BK252 BK253 BK254 BK255 BK262 BK270 BK278 HB
      have BK252:=n0_;have BK253:=n1_;have BK254:=n2_;have BK255:=n3_;have BK262:=n4_;have BK270:=n5_;have BK278:=n6_;have HB:=n7_
      clear n0_ n1_ n2_ n3_ n4_ n5_ n6_ n7_
      (try clear hb)
      (try clear hb2)
      (try clear hk)
      (try clear hi)
      refine hK.out _ _ ⟨(kC BK262.out 0).trans rfl,(kC BK262.out 1).trans rfl,(kC BK262.out 2).trans rfl,(kC BK262.out 3).trans rfl,(kC BK252.out 0).trans rfl,(kC BK252.out 1).trans rfl,(kC BK252.out 2).trans rfl,(kC BK252.out 3).trans rfl⟩ (fun hHeld => ?_)
      clear hK K
      refine norm_ (a':=?_) ?_ ?_
      rotate_left
      ·show Act.put _ (some 34) _ = _
       simp only [Act.put,sA,sZ,sS,i64_w,i32_w]
       rfl
      refine one_ (i:=3) (N:=some 36) #[tt,tt,tt,tt,ff,ff,ff,ff,tt,ff,ff] rfl rfl (one_of HT_.out (by kernel_rfl)) (by decide) (fun K hK => ?_)
      refine goes_ Try.func27 (by kernel_rfl) rfl #[.agg #[.int .i64 a0_0,.int .i64 a0_1,.int .i64 a0_2,.int .i64 a0_3]] (by rfl) rfl rfl (by (try simp only [List.map_toArray,List.map_cons,List.map_nil]);first|done|rfl|(simp only [List.length_drop,List.length_take];rfl)) ?_
      with_reducible refine (gazetteerref07_Margin.calls a0_0 a0_1 a0_2 a0_3 t273 t274 _ A38.out).mono ?_
      rintro e w67 ⟨rfl,hb⟩
      refine ⟨_,rfl,?_⟩
      have n0_:=Kb BK252 hb
      have n1_:=Kb BK253 hb
      have n2_:=Kb BK254 hb
      have n3_:=Kb BK255 hb
      have n4_:=Kb BK262 hb
      have n5_:=Kb BK270 hb
      have n6_:=Kb BK278 hb
      have n7_:=Kh HB hb
      clear BK252 BK253 BK254 BK255 BK262 BK270 BK278 HB
      have BK252:=n0_;have BK253:=n1_;have BK254:=n2_;have BK255:=n3_;have BK262:=n4_;have BK270:=n5_;have BK278:=n6_;have HB:=n7_
      clear n0_ n1_ n2_ n3_ n4_ n5_ n6_ n7_
      (try clear hb)
      (try clear hb2)
      (try clear hk)
      (try clear hi)
      refine hK.out _ _ ⟨(kC BK262.out 0).trans rfl,(kC BK262.out 1).trans rfl,(kC BK262.out 2).trans rfl,(kC BK262.out 3).trans rfl,(kC BK252.out 0).trans rfl,(kC BK252.out 1).trans rfl,(kC BK252.out 2).trans rfl,(kC BK252.out 3).trans rfl⟩ (fun hHeld => ?_)
      clear hK K
      refine norm_ (a':=?_) ?_ ?_
      rotate_left
      ·show Act.put _ (some 36) _ = _
       simp only [Act.put,sA,sZ,sS,i64_w,i32_w]
       rfl
      refine one_ (i:=4) (N:=some 37) #[tt,tt,tt,tt,tt,ff,ff,ff,tt,ff,ff] rfl rfl (one_of HT_.out (by kernel_rfl)) (by decide) (fun K hK => ?_)
      refine goes_ Try.func30 (by kernel_rfl) rfl #[.agg #[.int .u64 t271,.int .u64 t272],.agg #[.int .u64 t273,.int .u64 t274]] (by rfl) rfl rfl (by (try simp only [List.map_toArray,List.map_cons,List.map_nil]);first|done|rfl|(simp only [List.length_drop,List.length_take];rfl)) ?_
      with_reducible refine (gazetteerref07_Sub.calls t271 t272 t273 t274 t275 t276 t277 _ A39.out).mono ?_
      rintro e w68 ⟨rfl,hb⟩
      refine ⟨_,rfl,?_⟩
      have n0_:=Kb BK252 hb
      have n1_:=Kb BK253 hb
      have n2_:=Kb BK254 hb
      have n3_:=Kb BK255 hb
      have n4_:=Kb BK262 hb
      have n5_:=Kb BK270 hb
      have n6_:=Kb BK278 hb
      have n7_:=Kh HB hb
      clear BK252 BK253 BK254 BK255 BK262 BK270 BK278 HB
      have BK252:=n0_;have BK253:=n1_;have BK254:=n2_;have BK255:=n3_;have BK262:=n4_;have BK270:=n5_;have BK278:=n6_;have HB:=n7_
      clear n0_ n1_ n2_ n3_ n4_ n5_ n6_ n7_
      (try clear hb)
      (try clear hb2)
      (try clear hk)
      (try clear hi)
      refine hK.out _ _ ⟨(kC BK262.out 0).trans rfl,(kC BK262.out 1).trans rfl,(kC BK262.out 2).trans rfl,(kC BK262.out 3).trans rfl,(kC BK252.out 0).trans rfl,(kC BK252.out 1).trans rfl,(kC BK252.out 2).trans rfl,(kC BK252.out 3).trans rfl⟩ (fun hHeld => ?_)
      clear hK K
      refine norm_ (a':=?_) ?_ ?_
      rotate_left
      ·show Act.put _ (some 37) _ = _
       simp only [Act.put,sA,sZ,sS,i64_w,i32_w]
       rfl
      refine pure_ (i:=5) (N:=some 32) (v:=?_) (a':=?_) #[tt,tt,tt,tt,tt,tt,ff,ff,tt,ff,ff] rfl rfl (any_of HT_.out (by kernel_rfl)) (fun _ _ _ h => h) (Or.inl ⟨by rfl,?_⟩) ?_ ?_
      rotate_left
      ·intro w'
       go_simp
       with_reducible rfl
      rotate_left
      ·simp only [Act.put,sA,sZ,sS,i64_w,i32_w]
       rfl
      refine pure_ (i:=6) (N:=some 38) (v:=?_) (a':=?_) #[tt,tt,tt,tt,tt,tt,tt,ff,tt,ff,ff] rfl rfl (any_of HT_.out (by kernel_rfl)) (fun _ _ _ h => h) (Or.inl ⟨by rfl,?_⟩) ?_ ?_
      rotate_left
      ·intro w'
       go_simp
       with_reducible rfl
      rotate_left
      ·simp only [Act.put,sA,sZ,sS,i64_w,i32_w]
       rfl
      refine pure_ (i:=7) (N:=some 39) (v:=?_) (a':=?_) #[tt,tt,tt,tt,tt,tt,tt,tt,tt,ff,ff] rfl rfl (any_of HT_.out (by kernel_rfl)) (fun _ _ _ h => h) (Or.inl ⟨by rfl,?_⟩) ?_ ?_
      rotate_left
      ·intro w'
       go_simp
       with_reducible rfl
      rotate_left
      ·simp only [Act.put,sA,sZ,sS,i64_w,i32_w]
       rfl
      exact norm_ (by simp only [putAll,Act.put,sA,sZ,sS]) (hCont (gb278) _ ⟨hHeld,BK252.out,BK253.out,BK254.out,BK255.out,BK262.out,BK270.out,BK278.out,GW278.out,GE278.out,NB252_278.out,NB278_252.out,NB253_278.out,NB278_253.out,NB254_278.out,NB278_254.out,NB255_278.out,NB278_255.out,NB262_278.out,NB278_262.out,NB270_278.out,NB278_270.out,HB.out⟩)
    rintro gb278 w69 ⟨hS_,h0_,h1_,h2_,h3_,h4_,h5_,h6_,h7_,h8_,h9_,h10_,h11_,h12_,h13_,h14_,h15_,h16_,h17_,h18_,h19_,h20_,h21_⟩
    have n0_ : Aside0 (w69.heap[gb252]? = some (.cells #[.int .i64 a0_0,.int .i64 a0_1,.int .i64 a0_2,.int .i64 a0_3] 35 (0,0))):=⟨h0_⟩
    have n1_ : Aside0 (w69.heap[gb253]? = some (.cells #[.int .i64 a1_0,.int .i64 a1_1,.int .i64 a1_2,.int .i64 a1_3] 35 (0,0))):=⟨h1_⟩
    have n2_ : Aside0 (w69.heap[gb254]? = some (.cells #[.int .u64 0,.int .u64 0] 25 (0,0))):=⟨h2_⟩
    have n3_ : Aside0 (w69.heap[gb255]? = some (.cells #[.int .u64 0,.int .u64 0] 25 (0,0))):=⟨h3_⟩
    have n4_ : Aside0 (w69.heap[gb262]? = some (.cells #[.int .i64 t258,.int .i64 t259,.int .i64 t260,.int .i64 t261] 35 (0,0))):=⟨h4_⟩
    have n5_ : Aside0 (w69.heap[gb270]? = some (.cells #[.int .u64 t267,.int .u64 t268] 25 (0,0))):=⟨h5_⟩
    have n6_ : Aside0 (w69.heap[gb278]? = some (.cells #[.int .u64 0,.int .u64 0] 25 (0,0))):=⟨h6_⟩
    have n7_ : Aside0 (w.heap.size ≤ gb278):=⟨h7_⟩
    have n8_ : Aside0 (w.heap.size ≤ gb278):=⟨h8_⟩
    have n9_ : Aside0 (gb252 ≠ gb278):=⟨h9_⟩
    have n10_ : Aside0 (gb278 ≠ gb252):=⟨h10_⟩
    have n11_ : Aside0 (gb253 ≠ gb278):=⟨h11_⟩
    have n12_ : Aside0 (gb278 ≠ gb253):=⟨h12_⟩
    have n13_ : Aside0 (gb254 ≠ gb278):=⟨h13_⟩
    have n14_ : Aside0 (gb278 ≠ gb254):=⟨h14_⟩
    have n15_ : Aside0 (gb255 ≠ gb278):=⟨h15_⟩
    have n16_ : Aside0 (gb278 ≠ gb255):=⟨h16_⟩
    have n17_ : Aside0 (gb262 ≠ gb278):=⟨h17_⟩
    have n18_ : Aside0 (gb278 ≠ gb262):=⟨h18_⟩
    have n19_ : Aside0 (gb270 ≠ gb278):=⟨h19_⟩
    have n20_ : Aside0 (gb278 ≠ gb270):=⟨h20_⟩
    have n21_ : Aside0 (Below w.heap.size w w69):=⟨h21_⟩
    clear BK252 BK253 BK254 BK255 BK262 BK270 HB h0_ h1_ h2_ h3_ h4_ h5_ h6_ h7_ h8_ h9_ h10_ h11_ h12_ h13_ h14_ h15_ h16_ h17_ h18_ h19_ h20_ h21_
    have BK252:=n0_;have BK253:=n1_;have BK254:=n2_;have BK255:=n3_;have BK262:=n4_;have BK270:=n5_;have BK278:=n6_;have GW278:=n7_;have GE278:=n8_;have NB252_278:=n9_;have NB278_252:=n10_;have NB253_278:=n11_;have NB278_253:=n12_;have NB254_278:=n13_;have NB278_254:=n14_;have NB255_278:=n15_;have NB278_255:=n16_;have NB262_278:=n17_;have NB278_262:=n18_;have NB270_278:=n19_;have NB278_270:=n20_;have HB:=n21_
    clear n0_ n1_ n2_ n3_ n4_ n5_ n6_ n7_ n8_ n9_ n10_ n11_ n12_ n13_ n14_ n15_ n16_ n17_ n18_ n19_ n20_ n21_
    have hHeld : w69.cell? ⟨gb262,0,none⟩ = some (.int .i64 t258)∧w69.cell? ⟨gb262,1,none⟩ = some (.int .i64 t259)∧w69.cell? ⟨gb262,2,none⟩ = some (.int .i64 t260)∧w69.cell? ⟨gb262,3,none⟩ = some (.int .i64 t261)∧w69.cell? ⟨gb252,0,none⟩ = some (.int .i64 a0_0)∧w69.cell? ⟨gb252,1,none⟩ = some (.int .i64 a0_1)∧w69.cell? ⟨gb252,2,none⟩ = some (.int .i64 a0_2)∧w69.cell? ⟨gb252,3,none⟩ = some (.int .i64 a0_3):=hS_
    refine norm_ (a':=?_) ?_ ?_
    rotate_left
    ·simp only [putAll,Act.put,sA,sZ,sS]
     rfl
    refine one_ (i:=9) (N:=none) #[tt,tt,tt,tt,tt,tt,tt,tt,tt,tt,ff] rfl rfl (one_of HT_.out (by kernel_rfl)) (by decide) (fun K hK => ?_)
    have hs70 : w69.cell? ⟨gb278,0,none⟩ = some (.int .u64 0):=(kC BK278.out 0).trans rfl
    have hfs70:=blk_frozen BK278.out 0
    have hns70_0:=NB252_278.out
    have hns70_1:=NB253_278.out
    have hns70_2:=NB254_278.out
    have hns70_3:=NB255_278.out
    have hns70_4:=NB262_278.out
    have hns70_5:=NB270_278.out
    have hms70_0:=NB278_252.out
    have hms70_1:=NB278_253.out
    have hms70_2:=NB278_254.out
    have hms70_3:=NB278_255.out
    have hms70_4:=NB278_262.out
    have hms70_5:=NB278_270.out
    have hs71 : w69.cell? ⟨gb278,1,none⟩ = some (.int .u64 0):=(kC BK278.out 1).trans rfl
    have hfs71:=blk_frozen BK278.out 1
    have hns71_0:=NB252_278.out
    have hns71_1:=NB253_278.out
    have hns71_2:=NB254_278.out
    have hns71_3:=NB255_278.out
    have hns71_4:=NB262_278.out
    have hns71_5:=NB270_278.out
    have hms71_0:=NB278_252.out
    have hms71_1:=NB278_253.out
    have hms71_2:=NB278_254.out
    have hms71_3:=NB278_255.out
    have hms71_4:=NB278_262.out
    have hms71_5:=NB278_270.out
    refine skip_ (w1:=?_) (by rfl) rfl ?_ ?_
    rotate_left
    ·go_simp
     rfl
    refine hK.out _ _ ⟨((cell_far (p:=⟨gb278,_,none⟩) NB262_278.out _).trans (((cell_far (p:=⟨gb278,_,none⟩) NB262_278.out _).trans (hHeld.1)))),((cell_far (p:=⟨gb278,_,none⟩) NB262_278.out _).trans (((cell_far (p:=⟨gb278,_,none⟩) NB262_278.out _).trans (hHeld.2.1)))),((cell_far (p:=⟨gb278,_,none⟩) NB262_278.out _).trans (((cell_far (p:=⟨gb278,_,none⟩) NB262_278.out _).trans (hHeld.2.2.1)))),((cell_far (p:=⟨gb278,_,none⟩) NB262_278.out _).trans (((cell_far (p:=⟨gb278,_,none⟩) NB262_278.out _).trans (hHeld.2.2.2.1)))),((cell_far (p:=⟨gb278,_,none⟩) NB252_278.out _).trans (((cell_far (p:=⟨gb278,_,none⟩) NB252_278.out _).trans (hHeld.2.2.2.2.1)))),((cell_far (p:=⟨gb278,_,none⟩) NB252_278.out _).trans (((cell_far (p:=⟨gb278,_,none⟩) NB252_278.out _).trans (hHeld.2.2.2.2.2.1)))),((cell_far (p:=⟨gb278,_,none⟩) NB252_278.out _).trans (((cell_far (p:=⟨gb278,_,none⟩) NB252_278.out _).trans (hHeld.2.2.2.2.2.2.1)))),((cell_far (p:=⟨gb278,_,none⟩) NB252_278.out _).trans (((cell_far (p:=⟨gb278,_,none⟩) NB252_278.out _).trans (hHeld.2.2.2.2.2.2.2))))⟩ (fun hHeld => ?_)
    clear hK K
    refine pure_ (i:=10) (N:=some 10) (v:=?_) (a':=?_) #[tt,tt,tt,tt,tt,tt,tt,tt,tt,tt,tt] rfl rfl (any_of HT_.out (by kernel_rfl)) (fun _ _ _ h => h) (Or.inl ⟨by rfl,?_⟩) ?_ ?_
    rotate_left
    ·intro w'
     go_simp
     with_reducible rfl
    rotate_left
    ·simp only [Act.put,sA,sZ,sS,i64_w,i32_w]
     rfl
    refine done_ (done_of HT_.out (by kernel_rfl)) ?_
    try go_wp2
    have n0_ : Aside0 (((w69.setCell ⟨gb278,0,none⟩ (.int .u64 t275)).setCell ⟨gb278,1,none⟩ (.int .u64 t276)).heap[gb252]? = some (.cells #[.int .i64 a0_0,.int .i64 a0_1,.int .i64 a0_2,.int .i64 a0_3] 35 (0,0))):=⟨by (with_reducible repeat (first|refine kN ?_ _|refine kD ?_|refine kA ?_ _));refine blk_far ?_ NB252_278.out _;(with_reducible repeat (first|refine kN ?_ _|refine kD ?_|refine kA ?_ _));refine blk_far ?_ NB252_278.out _;(with_reducible repeat (first|refine kN ?_ _|refine kD ?_|refine kA ?_ _));exact BK252.out⟩
    have n1_ : Aside0 (((w69.setCell ⟨gb278,0,none⟩ (.int .u64 t275)).setCell ⟨gb278,1,none⟩ (.int .u64 t276)).heap[gb253]? = some (.cells #[.int .i64 a1_0,.int .i64 a1_1,.int .i64 a1_2,.int .i64 a1_3] 35 (0,0))):=⟨by (with_reducible repeat (first|refine kN ?_ _|refine kD ?_|refine kA ?_ _));refine blk_far ?_ NB253_278.out _;(with_reducible repeat (first|refine kN ?_ _|refine kD ?_|refine kA ?_ _));refine blk_far ?_ NB253_278.out _;(with_reducible repeat (first|refine kN ?_ _|refine kD ?_|refine kA ?_ _));exact BK253.out⟩
    have n2_ : Aside0 (((w69.setCell ⟨gb278,0,none⟩ (.int .u64 t275)).setCell ⟨gb278,1,none⟩ (.int .u64 t276)).heap[gb254]? = some (.cells #[.int .u64 0,.int .u64 0] 25 (0,0))):=⟨by (with_reducible repeat (first|refine kN ?_ _|refine kD ?_|refine kA ?_ _));refine blk_far ?_ NB254_278.out _;(with_reducible repeat (first|refine kN ?_ _|refine kD ?_|refine kA ?_ _));refine blk_far ?_ NB254_278.out _;(with_reducible repeat (first|refine kN ?_ _|refine kD ?_|refine kA ?_ _));exact BK254.out⟩
    have n3_ : Aside0 (((w69.setCell ⟨gb278,0,none⟩ (.int .u64 t275)).setCell ⟨gb278,1,none⟩ (.int .u64 t276)).heap[gb255]? = some (.cells #[.int .u64 0,.int .u64 0] 25 (0,0))):=⟨by (with_reducible repeat (first|refine kN ?_ _|refine kD ?_|refine kA ?_ _));refine blk_far ?_ NB255_278.out _;(with_reducible repeat (first|refine kN ?_ _|refine kD ?_|refine kA ?_ _));refine blk_far ?_ NB255_278.out _;(with_reducible repeat (first|refine kN ?_ _|refine kD ?_|refine kA ?_ _));exact BK255.out⟩
    have n4_ : Aside0 (((w69.setCell ⟨gb278,0,none⟩ (.int .u64 t275)).setCell ⟨gb278,1,none⟩ (.int .u64 t276)).heap[gb262]? = some (.cells #[.int .i64 t258,.int .i64 t259,.int .i64 t260,.int .i64 t261] 35 (0,0))):=⟨by (with_reducible repeat (first|refine kN ?_ _|refine kD ?_|refine kA ?_ _));refine blk_far ?_ NB262_278.out _;(with_reducible repeat (first|refine kN ?_ _|refine kD ?_|refine kA ?_ _));refine blk_far ?_ NB262_278.out _;(with_reducible repeat (first|refine kN ?_ _|refine kD ?_|refine kA ?_ _));exact BK262.out⟩
    have n5_ : Aside0 (((w69.setCell ⟨gb278,0,none⟩ (.int .u64 t275)).setCell ⟨gb278,1,none⟩ (.int .u64 t276)).heap[gb270]? = some (.cells #[.int .u64 t267,.int .u64 t268] 25 (0,0))):=⟨by (with_reducible repeat (first|refine kN ?_ _|refine kD ?_|refine kA ?_ _));refine blk_far ?_ NB270_278.out _;(with_reducible repeat (first|refine kN ?_ _|refine kD ?_|refine kA ?_ _));refine blk_far ?_ NB270_278.out _;(with_reducible repeat (first|refine kN ?_ _|refine kD ?_|refine kA ?_ _));exact BK270.out⟩
    have n6_ : Aside0 (((w69.setCell ⟨gb278,0,none⟩ (.int .u64 t275)).setCell ⟨gb278,1,none⟩ (.int .u64 t276)).heap[gb278]? = some (.cells #[.int .u64 t275,.int .u64 t276] 25 (0,0))):=⟨by (with_reducible repeat (first|refine kN ?_ _|refine kD ?_|refine kA ?_ _));refine blk_put (cs:=#[.int .u64 t275,.int .u64 0]) ?_ 1 _ rfl;(with_reducible repeat (first|refine kN ?_ _|refine kD ?_|refine kA ?_ _));refine blk_put (cs:=#[.int .u64 0,.int .u64 0]) ?_ 0 _ rfl;(with_reducible repeat (first|refine kN ?_ _|refine kD ?_|refine kA ?_ _));exact BK278.out⟩
    have n7_ : Aside0 (Below w.heap.size w ((w69.setCell ⟨gb278,0,none⟩ (.int .u64 t275)).setCell ⟨gb278,1,none⟩ (.int .u64 t276))):=⟨by repeat (first|(with_reducible first|exact HB.out|apply bA|apply bN|apply bD|refine bS ?_ GE252.out|refine bS ?_ GE253.out|refine bS ?_ GE254.out|refine bS ?_ GE255.out|refine bS ?_ GE262.out|refine bS ?_ GE270.out|refine bS ?_ GE278.out)|exact HB.out)⟩
    (try clear BK252)
    (try clear BK253)
    (try clear BK254)
    (try clear BK255)
    (try clear BK262)
    (try clear BK270)
    (try clear BK278)
    (try clear HB)
    generalize ((w69.setCell ⟨gb278,0,none⟩ (.int .u64 t275)).setCell ⟨gb278,1,none⟩ (.int .u64 t276)) = w72 at n0_ n1_ n2_ n3_ n4_ n5_ n6_ n7_ ⊢
    have BK252:=n0_;have BK253:=n1_;have BK254:=n2_;have BK255:=n3_;have BK262:=n4_;have BK270:=n5_;have BK278:=n6_;have HB:=n7_
    clear n0_ n1_ n2_ n3_ n4_ n5_ n6_ n7_
    have n0_:=Ak (kD BK252.out)
    have n1_:=Ak (kD BK253.out)
    have n2_:=Ak (kD BK254.out)
    have n3_:=Ak (kD BK255.out)
    have n4_:=Ak (kD BK262.out)
    have n5_:=Ak (kD BK270.out)
    have n6_:=Ak (kD BK278.out)
    have n7_:=Ak (bD HB.out)
    clear BK252 BK253 BK254 BK255 BK262 BK270 BK278 HB
    have BK252:=n0_;have BK253:=n1_;have BK254:=n2_;have BK255:=n3_;have BK262:=n4_;have BK270:=n5_;have BK278:=n6_;have HB:=n7_
    clear n0_ n1_ n2_ n3_ n4_ n5_ n6_ n7_
    refine start_ (n:=4) (S:=fun w' => w'.cell? ⟨gb270,0,none⟩ = some (.int .u64 t267)∧w'.cell? ⟨gb270,1,none⟩ = some (.int .u64 t268)∧w'.cell? ⟨gb278,0,none⟩ = some (.int .u64 t275)∧w'.cell? ⟨gb278,1,none⟩ = some (.int .u64 t276)) (ds:=[]) #[ff,ff,ff,ff] (by kernel_rfl) rfl rfl ⟨(kC BK270.out 0).trans rfl,(kC BK270.out 1).trans rfl,(kC BK278.out 0).trans rfl,(kC BK278.out 1).trans rfl⟩ (fun hHeld => ?_)
    generalize w72.drew = w73 at BK252 BK253 BK254 BK255 BK262 BK270 BK278 HB hHeld ⊢
    refine take_ (i:=0) (N:=some 40) (v:=?_) (a':=?_) #[tt,ff,ff,ff] rfl rfl (by kernel_rfl) (fun _ _ _ h => h) (Or.inl ⟨by rfl,?_⟩) hHeld ?_ ?_
    rotate_left
    ·rintro w' ⟨s0,s1,s2,s3⟩
     go_simp
     with_reducible rfl
    rotate_left
    ·simp only [Act.put,sA,sZ,sS,i64_w,i32_w]
     rfl
    refine take_ (i:=1) (N:=some 41) (v:=?_) (a':=?_) #[tt,tt,ff,ff] rfl rfl (by kernel_rfl) (fun _ _ _ h => h) (Or.inl ⟨by rfl,?_⟩) hHeld ?_ ?_
    rotate_left
    ·rintro w' ⟨s0,s1,s2,s3⟩
     go_simp
     with_reducible rfl
    rotate_left
    ·simp only [Act.put,sA,sZ,sS,i64_w,i32_w]
     rfl
    refine one_ (i:=2) (N:=none) #[tt,tt,tt,ff] rfl rfl (by kernel_rfl) (by decide) (fun K hK => ?_)
    have hs74 : w73.cell? ⟨gb254,0,none⟩ = some (.int .u64 0):=(kC BK254.out 0).trans rfl
    have hfs74:=blk_frozen BK254.out 0
    have hns74_0:=NB252_254.out
    have hns74_1:=NB253_254.out
    have hns74_3:=NB255_254.out
    have hns74_4:=NB262_254.out
    have hns74_5:=NB270_254.out
    have hns74_6:=NB278_254.out
    have hms74_0:=NB254_252.out
    have hms74_1:=NB254_253.out
    have hms74_3:=NB254_255.out
    have hms74_4:=NB254_262.out
    have hms74_5:=NB254_270.out
    have hms74_6:=NB254_278.out
    have hs75 : w73.cell? ⟨gb254,1,none⟩ = some (.int .u64 0):=(kC BK254.out 1).trans rfl
    have hfs75:=blk_frozen BK254.out 1
    have hns75_0:=NB252_254.out
    have hns75_1:=NB253_254.out
    have hns75_3:=NB255_254.out
    have hns75_4:=NB262_254.out
    have hns75_5:=NB270_254.out
    have hns75_6:=NB278_254.out
    have hms75_0:=NB254_252.out
    have hms75_1:=NB254_253.out
    have hms75_3:=NB254_255.out
    have hms75_4:=NB254_262.out
    have hms75_5:=NB254_270.out
    have hms75_6:=NB254_278.out
    refine skip_ (w1:=?_) (by rfl) rfl ?_ ?_
    rotate_left
    ·go_simp
     rfl
    refine hK.out _ _ ⟨((cell_far (p:=⟨gb254,_,none⟩) NB270_254.out _).trans (((cell_far (p:=⟨gb254,_,none⟩) NB270_254.out _).trans (hHeld.1)))),((cell_far (p:=⟨gb254,_,none⟩) NB270_254.out _).trans (((cell_far (p:=⟨gb254,_,none⟩) NB270_254.out _).trans (hHeld.2.1)))),((cell_far (p:=⟨gb254,_,none⟩) NB278_254.out _).trans (((cell_far (p:=⟨gb254,_,none⟩) NB278_254.out _).trans (hHeld.2.2.1)))),((cell_far (p:=⟨gb254,_,none⟩) NB278_254.out _).trans (((cell_far (p:=⟨gb254,_,none⟩) NB278_254.out _).trans (hHeld.2.2.2))))⟩ (fun hHeld => ?_)
    clear hK K
    refine one_ (i:=3) (N:=none) #[tt,tt,tt,tt] rfl rfl (by kernel_rfl) (by decide) (fun K hK => ?_)
    have hs76 : w73.cell? ⟨gb255,0,none⟩ = some (.int .u64 0):=(kC BK255.out 0).trans rfl
    have hfs76:=blk_frozen BK255.out 0
    have hns76_0:=NB252_255.out
    have hns76_1:=NB253_255.out
    have hns76_2:=NB254_255.out
    have hns76_4:=NB262_255.out
    have hns76_5:=NB270_255.out
    have hns76_6:=NB278_255.out
    have hms76_0:=NB255_252.out
    have hms76_1:=NB255_253.out
    have hms76_2:=NB255_254.out
    have hms76_4:=NB255_262.out
    have hms76_5:=NB255_270.out
    have hms76_6:=NB255_278.out
    have hs77 : w73.cell? ⟨gb255,1,none⟩ = some (.int .u64 0):=(kC BK255.out 1).trans rfl
    have hfs77:=blk_frozen BK255.out 1
    have hns77_0:=NB252_255.out
    have hns77_1:=NB253_255.out
    have hns77_2:=NB254_255.out
    have hns77_4:=NB262_255.out
    have hns77_5:=NB270_255.out
    have hns77_6:=NB278_255.out
    have hms77_0:=NB255_252.out
    have hms77_1:=NB255_253.out
    have hms77_2:=NB255_254.out
    have hms77_4:=NB255_262.out
    have hms77_5:=NB255_270.out
    have hms77_6:=NB255_278.out
    refine skip_ (w1:=?_) (by rfl) rfl ?_ ?_
    rotate_left
    ·go_simp
     rfl
    refine hK.out _ _ ⟨((cell_far (p:=⟨gb255,_,none⟩) NB270_255.out _).trans (((cell_far (p:=⟨gb255,_,none⟩) NB270_255.out _).trans (hHeld.1)))),((cell_far (p:=⟨gb255,_,none⟩) NB270_255.out _).trans (((cell_far (p:=⟨gb255,_,none⟩) NB270_255.out _).trans (hHeld.2.1)))),((cell_far (p:=⟨gb255,_,none⟩) NB278_255.out _).trans (((cell_far (p:=⟨gb255,_,none⟩) NB278_255.out _).trans (hHeld.2.2.1)))),((cell_far (p:=⟨gb255,_,none⟩) NB278_255.out _).trans (((cell_far (p:=⟨gb255,_,none⟩) NB278_255.out _).trans (hHeld.2.2.2))))⟩ (fun hHeld => ?_)
    clear hK K
    refine done_ (by kernel_rfl) ?_
    try go_wp2
    refine bodyPost_ret (results_cc rfl _ _ gb254 gb255 25 25 #[.int .u64 t267,.int .u64 t268] #[.int .u64 t275,.int .u64 t276] (0,0) (0,0) _ _ rfl (by (with_reducible repeat (first|refine kN ?_ _|refine kD ?_|refine kA ?_ _));refine blk_far ?_ NB254_255.out _;(with_reducible repeat (first|refine kN ?_ _|refine kD ?_|refine kA ?_ _));refine blk_far ?_ NB254_255.out _;(with_reducible repeat (first|refine kN ?_ _|refine kD ?_|refine kA ?_ _));refine blk_put (cs:=#[.int .u64 t267,.int .u64 0]) ?_ 1 _ rfl;(with_reducible repeat (first|refine kN ?_ _|refine kD ?_|refine kA ?_ _));refine blk_put (cs:=#[.int .u64 0,.int .u64 0]) ?_ 0 _ rfl;(with_reducible repeat (first|refine kN ?_ _|refine kD ?_|refine kA ?_ _));exact BK254.out) Try.underlying25 rfl (by kernel_rfl) rfl (by (with_reducible repeat (first|refine kN ?_ _|refine kD ?_|refine kA ?_ _));refine blk_put (cs:=#[.int .u64 t275,.int .u64 0]) ?_ 1 _ rfl;(with_reducible repeat (first|refine kN ?_ _|refine kD ?_|refine kA ?_ _));refine blk_put (cs:=#[.int .u64 0,.int .u64 0]) ?_ 0 _ rfl;(with_reducible repeat (first|refine kN ?_ _|refine kD ?_|refine kA ?_ _));refine blk_far ?_ NB255_254.out _;(with_reducible repeat (first|refine kN ?_ _|refine kD ?_|refine kA ?_ _));refine blk_far ?_ NB255_254.out _;(with_reducible repeat (first|refine kN ?_ _|refine kD ?_|refine kA ?_ _));exact BK255.out) Try.underlying25 rfl (by kernel_rfl)) rfl ?_
    exact ⟨by first|rfl|(simp [errW_none,errW_some] <;> rfl)|(simp [*,errW_none,errW_some] <;> rfl),by repeat (first|(with_reducible first|exact HB.out|apply bA|apply bN|apply bD|refine bS ?_ GE252.out|refine bS ?_ GE253.out|refine bS ?_ GE254.out|refine bS ?_ GE255.out|refine bS ?_ GE262.out|refine bS ?_ GE270.out|refine bS ?_ GE278.out)|exact HB.out)⟩
end Go.Proofs.Ythlhmijgbjcloaa.A
end
section
namespace Go.Proofs.Ythlhmijgbjcloaa.A
open Go.RowKit Go.Proofs.YthlhmijgbjcloaaW.PrintWords Go.Proofs.YthlhmijgbjcloaaW.PrintLast Go.Proofs.YthlhmijgbjcloaaW.PrintMore
attribute [local go_sem] max2_int min2_int max_two min_two max_three min_three max_four min_four   -- for this text's walks alone
def gazetteerref07_Cmp.f (a0_0 : Int) (a0_1 : Int) (a1_0 : Int) (a1_1 : Int) : Option Int:=cmpF a0_0 a0_1 a1_0 a1_1
theorem gazetteerref07_Cmp.calls (a0_0 : Int) (a0_1 : Int) (a1_0 : Int) (a1_1 : Int) (r : Int) (w : World) (h : gazetteerref07_Cmp.f a0_0 a0_1 a1_0 a1_1 = some r) :
  Calls Try.prog 31 #[.agg #[.int .u64 a0_0,.int .u64 a0_1],.agg #[.int .u64 a1_0,.int .u64 a1_1]] w fun e w' => e = .returned (.int .i64 r)∧Below w.heap.size w w':=by
 unfold gazetteerref07_Cmp.f cmpF at h
 split at h
 ·rename_i hk
  simp only [Bool.and_eq_true] at hk
  obtain ⟨⟨⟨g0,g1⟩,g2⟩,g3⟩:=hk
  injection h with h
  subst h
  obtain ⟨m1,m2,m3⟩:=num_hl (isU_of g0) (isU_of g1)
  obtain ⟨n1,n2,n3⟩:=num_hl (isU_of g2) (isU_of g3)
  obtain ⟨x,hx⟩:=Int.eq_ofNat_of_zero_le m1.1
  obtain ⟨y,hy⟩:=Int.eq_ofNat_of_zero_le n1.1
  have:=refcmp_n x y (by have:=m1.2;omega) (by have:=n1.2;omega) w
  rw [← hx,← hy] at this
  unfold wd at this
  rw [m2,m3,n2,n3] at this
  exact this
 ·cases h
end Go.Proofs.Ythlhmijgbjcloaa.A
end
