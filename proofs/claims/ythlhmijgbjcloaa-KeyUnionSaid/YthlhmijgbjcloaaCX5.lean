/- What the row of this claim reaches. No condition. -/
import Derived.Laws.BytesArg
import Derived.WalkKit
import Derived.StillTailTactics
import Derived.Deep.RegionHeld3
import Derived.Laws.Bits64b
import Derived.Test.YthlhmijgbjcloaaCPart
set_option linter.unusedVariables false
set_option linter.unusedSimpArgs false
section
namespace Go.Proofs.Ythlhmijgbjcloaa.A
open Go.RowKit Go.Proofs.YthlhmijgbjcloaaW.PrintWords Go.Proofs.YthlhmijgbjcloaaW.PrintLast Go.Proofs.YthlhmijgbjcloaaW.PrintMore
attribute [local go_sem] max2_int min2_int max_two min_two max_three min_three max_four min_four   -- for this text's walks alone
theorem key_Part.calls (k : Nat) (A0 : Option Addr) (c0 : Nat) (l0 : List S35) (r1 : List Int) (r2 : List Int) (r3 : Int) (w : World) (hr0 : Kd.C k35 w A0 l0.length l0) (hc0 : l0.length ≤ c0) (h : key_Part.f k l0 = some (r1, r2, r3)) :
    Calls Try.prog 33 #[.slice A0 l0.length c0] w fun e w' => ∃ v0_ v1_ : Value, e = .returned (.tuple #[v0_, v1_, .int .i64 r3]) ∧ Kd.R (Kd.int .i64) 3 w' w.heap.size (fun k_ => some k_ ≠ (v1_ : Value).ownBlock) v0_ r1 ∧ Kd.R (Kd.int .i64) 3 w' w.heap.size (fun k_ => some k_ ≠ (v0_ : Value).ownBlock) v1_ r2 ∧ Below w.heap.size w w' :=
  key_Part_any k A0 c0 l0 r1 r2 r3 w hr0 hc0 h
end Go.Proofs.Ythlhmijgbjcloaa.A
end
section
namespace Go.Proofs.Ythlhmijgbjcloaa.A
open Go.RowKit Go.Proofs.YthlhmijgbjcloaaW.PrintWords Go.Proofs.YthlhmijgbjcloaaW.PrintLast Go.Proofs.YthlhmijgbjcloaaW.PrintMore
attribute [local go_sem] max2_int min2_int max_two min_two max_three min_three max_four min_four   -- for this text's walks alone
def key_Meets.f (a0_0 : Int) (a0_1 : Int) (a0_2 : Int) (a0_3 : Int) (a1_0 : Int) (a1_1 : Int) (a1_2 : Int) (a1_3 : Int) : Option (Bool) := (key_box.f a0_0 a0_1 a0_2 a0_3).bind fun t152 => (if t152 = true then ((key_box.f a1_0 a1_1 a1_2 a1_3).bind fun t153 => (if t153 = true then (if a0_0 ≤ a1_1 then (if a1_0 ≤ a0_1 then (if a0_2 ≤ a1_3 then (some (decide (a1_2 ≤ a0_3))) else (some false)) else (some false)) else (some false)) else (some false))) else (some false))
set_option maxHeartbeats 8000000 in
set_option maxRecDepth 100000 in
theorem key_Meets.calls (a0_0 : Int) (a0_1 : Int) (a0_2 : Int) (a0_3 : Int) (a1_0 : Int) (a1_1 : Int) (a1_2 : Int) (a1_3 : Int) (r : Bool) (w : World) (h : key_Meets.f a0_0 a0_1 a0_2 a0_3 a1_0 a1_1 a1_2 a1_3 = some r) :
  Calls Try.prog 34 #[.agg #[.int .i64 a0_0,.int .i64 a0_1,.int .i64 a0_2,.int .i64 a0_3],.agg #[.int .i64 a1_0,.int .i64 a1_1,.int .i64 a1_2,.int .i64 a1_3]] w fun e w' => e = .returned (.bool r)∧Below w.heap.size w w':=by
 have hu35:=Try.underlying35
 have HB:=Ak (Below.refl w.heap.size w)
 have H : ((key_box.f a0_0 a0_1 a0_2 a0_3).bind fun t152 => (if t152 = true then ((key_box.f a1_0 a1_1 a1_2 a1_3).bind fun t153 => (if t153 = true then (if a0_0 ≤ a1_1 then (if a1_0 ≤ a0_1 then (if a0_2 ≤ a1_3 then (some (decide (a1_2 ≤ a0_3))) else (some false)) else (some false)) else (some false)) else (some false))) else (some false))) = some r:=h
 clear h
 replace H:=Option.bind_eq_some_iff.mp H
 obtain ⟨t152,A30,H⟩:=H
 replace H : (if t152 = true then ((key_box.f a1_0 a1_1 a1_2 a1_3).bind fun t153 => (if t153 = true then (if a0_0 ≤ a1_1 then (if a1_0 ≤ a0_1 then (if a0_2 ≤ a1_3 then (some (decide (a1_2 ≤ a0_3))) else (some false)) else (some false)) else (some false)) else (some false))) else (some false)) = some r:=H
 have A3:=Ak A30
 clear A30
 by_cases c4 : t152 = true
 ·subst c4
  have H1 : ((key_box.f a1_0 a1_1 a1_2 a1_3).bind fun t153 => (if t153 = true then (if a0_0 ≤ a1_1 then (if a1_0 ≤ a0_1 then (if a0_2 ≤ a1_3 then (some (decide (a1_2 ≤ a0_3))) else (some false)) else (some false)) else (some false)) else (some false))) = some r:=by rw [if_pos rfl] at H;exact H
  clear H
  have H:=H1
  clear H1
  replace H:=Option.bind_eq_some_iff.mp H
  obtain ⟨t153,A50,H⟩:=H
  replace H : (if t153 = true then (if a0_0 ≤ a1_1 then (if a1_0 ≤ a0_1 then (if a0_2 ≤ a1_3 then (some (decide (a1_2 ≤ a0_3))) else (some false)) else (some false)) else (some false)) else (some false)) = some r:=H
  have A5:=Ak A50
  clear A50
  by_cases c6 : t153 = true
  ·subst c6
   have H1 : (if a0_0 ≤ a1_1 then (if a1_0 ≤ a0_1 then (if a0_2 ≤ a1_3 then (some (decide (a1_2 ≤ a0_3))) else (some false)) else (some false)) else (some false)) = some r:=by rw [if_pos rfl] at H;exact H
   clear H
   have H:=H1
   clear H1
   by_cases c7 : a0_0 ≤ a1_1
   ·rw [if_pos c7] at H
    have c7b0 : decide (a0_0 ≤ a1_1) = true:=decide_eq_true c7
    clear c7
    by_cases c8 : a1_0 ≤ a0_1
    ·rw [if_pos c8] at H
     have c8b0 : decide (a1_0 ≤ a0_1) = true:=decide_eq_true c8
     clear c8
     by_cases c9 : a0_2 ≤ a1_3
     ·rw [if_pos c9] at H
      have c9b0 : decide (a0_2 ≤ a1_3) = true:=decide_eq_true c9
      clear c9
      obtain rfl:=Option.some.inj H
      go_enter Try.func34,Try.ntmps34
      go_wp2_with (first|((with_reducible refine gate_dst (N:=2) rfl ?_);refine box_event ?hg (N:=2) ?hd (cs:=#[.int .i64 a0_0,.int .i64 a0_1,.int .i64 a0_2,.int .i64 a0_3]) (t:=35) ?hr ?_;(case hd => rfl);(case hg => rfl);(case hr => first|(go_simp;done)|(go_simp;rfl));intro gb150 hg w10 hbox hb;have n0_:=Kh HB hb;have n1_:=Ak (hbox);have n2_:=Ak ((by rw [hg];exact (below_size HB.out) : w.heap.size ≤ gb150));have n3_:=Ak ((by rw [hg];exact (below_size HB.out) : w.heap.size ≤ gb150));clear HB;have HB:=n0_;have BK150:=n1_;have GW150:=n2_;have GE150:=n3_;clear n0_ n1_ n2_ n3_;clear hb hbox hg)|((with_reducible refine gate_dst (N:=3) rfl ?_);refine box_event ?hg (N:=3) ?hd (cs:=#[.int .i64 a1_0,.int .i64 a1_1,.int .i64 a1_2,.int .i64 a1_3]) (t:=35) ?hr ?_;(case hd => rfl);(case hg => rfl);(case hr => first|(go_simp;done)|(go_simp;rfl));intro gb151 hg w11 hbox hb;have n0_:=Kb BK150 hb;have n1_:=Kh HB hb;have n2_:=Ak (hbox);have n3_:=Ak ((by rw [hg];exact (below_size HB.out) : w.heap.size ≤ gb151));have n4_:=Ak ((by rw [hg];exact (below_size HB.out) : w.heap.size ≤ gb151));have n5_:=Ak ((by rw [hg];exact Nat.ne_of_lt (blk_lt (g:=gb150) (o:=.cells #[.int .i64 a0_0,.int .i64 a0_1,.int .i64 a0_2,.int .i64 a0_3] 35 (0,0)) BK150.out) : gb150 ≠ gb151));have n6_:=Ak ((by rw [hg];exact Nat.ne_of_gt (blk_lt (g:=gb150) (o:=.cells #[.int .i64 a0_0,.int .i64 a0_1,.int .i64 a0_2,.int .i64 a0_3] 35 (0,0)) BK150.out) : gb151 ≠ gb150));clear BK150;clear HB;have BK150:=n0_;have HB:=n1_;have BK151:=n2_;have GW151:=n3_;have GE151:=n4_;have NB150_151:=n5_;have NB151_150:=n6_;clear n0_ n1_ n2_ n3_ n4_ n5_ n6_;clear hb hbox hg;have hnb12:=NB150_151.out;have hnc12:=NB151_150.out;have hcz13_0 : w11.cell? ⟨gb150,0,none⟩ = some (.int .i64 a0_0):=(kC BK150.out 0).trans rfl;have hcz13_1 : w11.cell? ⟨gb150,1,none⟩ = some (.int .i64 a0_1):=(kC BK150.out 1).trans rfl;have hcz13_2 : w11.cell? ⟨gb150,2,none⟩ = some (.int .i64 a0_2):=(kC BK150.out 2).trans rfl;have hcz13_3 : w11.cell? ⟨gb150,3,none⟩ = some (.int .i64 a0_3):=(kC BK150.out 3).trans rfl;have hfz13_0:=blk_frozen BK150.out 0;have hfz13_1:=blk_frozen BK150.out 1;have hfz13_2:=blk_frozen BK150.out 2;have hfz13_3:=blk_frozen BK150.out 3)|((with_reducible refine gate_callee (f:=57) rfl ?_);refine goesL_ (some 6) rfl rfl Try.func57 (by kernel_rfl) rfl #[.agg #[.int .i64 a0_0,.int .i64 a0_1,.int .i64 a0_2,.int .i64 a0_3]] rfl (by (try simp only [List.map_toArray,List.map_cons,List.map_nil]);first|done|rfl|(simp only [List.length_drop,List.length_take];rfl)) ?_;(with_reducible refine (key_box.calls a0_0 a0_1 a0_2 a0_3 true _ A3.out).mono ?_);rintro e w14 ⟨rfl,hb⟩;refine ⟨_,rfl,?_⟩;have n0_:=Kb BK150 hb;have n1_:=Kb BK151 hb;have n2_:=Kh HB hb;clear BK150;clear BK151;clear HB;have BK150:=n0_;have BK151:=n1_;have HB:=n2_;clear n0_ n1_ n2_;(try clear hb);(try clear hb2);(try clear hk);(try clear hi);have hcz15_0 : w14.cell? ⟨gb151,0,none⟩ = some (.int .i64 a1_0):=(kC BK151.out 0).trans rfl;have hcz15_1 : w14.cell? ⟨gb151,1,none⟩ = some (.int .i64 a1_1):=(kC BK151.out 1).trans rfl;have hcz15_2 : w14.cell? ⟨gb151,2,none⟩ = some (.int .i64 a1_2):=(kC BK151.out 2).trans rfl;have hcz15_3 : w14.cell? ⟨gb151,3,none⟩ = some (.int .i64 a1_3):=(kC BK151.out 3).trans rfl;have hfz15_0:=blk_frozen BK151.out 0;have hfz15_1:=blk_frozen BK151.out 1;have hfz15_2:=blk_frozen BK151.out 2;have hfz15_3:=blk_frozen BK151.out 3)|(go_at_call 57;(with_reducible refine (key_box.calls a1_0 a1_1 a1_2 a1_3 true _ A5.out).mono ?_);rintro e w16 ⟨rfl,hb⟩;have n0_:=Kb BK150 hb;have n1_:=Kb BK151 hb;have n2_:=Kh HB hb;clear BK150;clear BK151;clear HB;have BK150:=n0_;have BK151:=n1_;have HB:=n2_;clear n0_ n1_ n2_;(try clear hb);(try clear hb2);(try clear hk);(try clear hi);have hcz17_0 : w16.cell? ⟨gb150,0,none⟩ = some (.int .i64 a0_0):=(kC BK150.out 0).trans rfl;have hcz17_1 : w16.cell? ⟨gb150,1,none⟩ = some (.int .i64 a0_1):=(kC BK150.out 1).trans rfl;have hcz17_2 : w16.cell? ⟨gb150,2,none⟩ = some (.int .i64 a0_2):=(kC BK150.out 2).trans rfl;have hcz17_3 : w16.cell? ⟨gb150,3,none⟩ = some (.int .i64 a0_3):=(kC BK150.out 3).trans rfl;have hfz17_0:=blk_frozen BK150.out 0;have hfz17_1:=blk_frozen BK150.out 1;have hfz17_2:=blk_frozen BK150.out 2;have hfz17_3:=blk_frozen BK150.out 3;have hcz18_0 : w16.cell? ⟨gb151,0,none⟩ = some (.int .i64 a1_0):=(kC BK151.out 0).trans rfl;have hcz18_1 : w16.cell? ⟨gb151,1,none⟩ = some (.int .i64 a1_1):=(kC BK151.out 1).trans rfl;have hcz18_2 : w16.cell? ⟨gb151,2,none⟩ = some (.int .i64 a1_2):=(kC BK151.out 2).trans rfl;have hcz18_3 : w16.cell? ⟨gb151,3,none⟩ = some (.int .i64 a1_3):=(kC BK151.out 3).trans rfl;have hfz18_0:=blk_frozen BK151.out 0;have hfz18_1:=blk_frozen BK151.out 1;have hfz18_2:=blk_frozen BK151.out 2;have hfz18_3:=blk_frozen BK151.out 3))
      go_ret
      exact ⟨by first|rfl|(simp [errW_none,errW_some] <;> rfl)|(simp [*,errW_none,errW_some] <;> rfl),by repeat (first|(with_reducible first|exact HB.out|apply bA|apply bN|apply bD|refine bS ?_ GE150.out|refine bS ?_ GE151.out)|exact HB.out)⟩
     ·rw [if_neg c9] at H
      have c9b0 : decide (a0_2 ≤ a1_3) = false:=decide_eq_false c9
      clear c9
      obtain rfl:=Option.some.inj H
      go_enter Try.func34,Try.ntmps34
      go_wp2_with (first|((with_reducible refine gate_dst (N:=2) rfl ?_);refine box_event ?hg (N:=2) ?hd (cs:=#[.int .i64 a0_0,.int .i64 a0_1,.int .i64 a0_2,.int .i64 a0_3]) (t:=35) ?hr ?_;(case hd => rfl);(case hg => rfl);(case hr => first|(go_simp;done)|(go_simp;rfl));intro gb150 hg w19 hbox hb;have n0_:=Kh HB hb;have n1_:=Ak (hbox);have n2_:=Ak ((by rw [hg];exact (below_size HB.out) : w.heap.size ≤ gb150));have n3_:=Ak ((by rw [hg];exact (below_size HB.out) : w.heap.size ≤ gb150));clear HB;have HB:=n0_;have BK150:=n1_;have GW150:=n2_;have GE150:=n3_;clear n0_ n1_ n2_ n3_;clear hb hbox hg)|((with_reducible refine gate_dst (N:=3) rfl ?_);refine box_event ?hg (N:=3) ?hd (cs:=#[.int .i64 a1_0,.int .i64 a1_1,.int .i64 a1_2,.int .i64 a1_3]) (t:=35) ?hr ?_;(case hd => rfl);(case hg => rfl);(case hr => first|(go_simp;done)|(go_simp;rfl));intro gb151 hg w20 hbox hb;have n0_:=Kb BK150 hb;have n1_:=Kh HB hb;have n2_:=Ak (hbox);have n3_:=Ak ((by rw [hg];exact (below_size HB.out) : w.heap.size ≤ gb151));have n4_:=Ak ((by rw [hg];exact (below_size HB.out) : w.heap.size ≤ gb151));have n5_:=Ak ((by rw [hg];exact Nat.ne_of_lt (blk_lt (g:=gb150) (o:=.cells #[.int .i64 a0_0,.int .i64 a0_1,.int .i64 a0_2,.int .i64 a0_3] 35 (0,0)) BK150.out) : gb150 ≠ gb151));have n6_:=Ak ((by rw [hg];exact Nat.ne_of_gt (blk_lt (g:=gb150) (o:=.cells #[.int .i64 a0_0,.int .i64 a0_1,.int .i64 a0_2,.int .i64 a0_3] 35 (0,0)) BK150.out) : gb151 ≠ gb150));clear BK150;clear HB;have BK150:=n0_;have HB:=n1_;have BK151:=n2_;have GW151:=n3_;have GE151:=n4_;have NB150_151:=n5_;have NB151_150:=n6_;clear n0_ n1_ n2_ n3_ n4_ n5_ n6_;clear hb hbox hg;have hnb21:=NB150_151.out;have hnc21:=NB151_150.out;have hcz22_0 : w20.cell? ⟨gb150,0,none⟩ = some (.int .i64 a0_0):=(kC BK150.out 0).trans rfl;have hcz22_1 : w20.cell? ⟨gb150,1,none⟩ = some (.int .i64 a0_1):=(kC BK150.out 1).trans rfl;have hcz22_2 : w20.cell? ⟨gb150,2,none⟩ = some (.int .i64 a0_2):=(kC BK150.out 2).trans rfl;have hcz22_3 : w20.cell? ⟨gb150,3,none⟩ = some (.int .i64 a0_3):=(kC BK150.out 3).trans rfl;have hfz22_0:=blk_frozen BK150.out 0;have hfz22_1:=blk_frozen BK150.out 1;have hfz22_2:=blk_frozen BK150.out 2;have hfz22_3:=blk_frozen BK150.out 3)|((with_reducible refine gate_callee (f:=57) rfl ?_);refine goesL_ (some 6) rfl rfl Try.func57 (by kernel_rfl) rfl #[.agg #[.int .i64 a0_0,.int .i64 a0_1,.int .i64 a0_2,.int .i64 a0_3]] rfl (by (try simp only [List.map_toArray,List.map_cons,List.map_nil]);first|done|rfl|(simp only [List.length_drop,List.length_take];rfl)) ?_;(with_reducible refine (key_box.calls a0_0 a0_1 a0_2 a0_3 true _ A3.out).mono ?_);rintro e w23 ⟨rfl,hb⟩;refine ⟨_,rfl,?_⟩;have n0_:=Kb BK150 hb;have n1_:=Kb BK151 hb;have n2_:=Kh HB hb;clear BK150;clear BK151;clear HB;have BK150:=n0_;have BK151:=n1_;have HB:=n2_;clear n0_ n1_ n2_;(try clear hb);(try clear hb2);(try clear hk);(try clear hi);have hcz24_0 : w23.cell? ⟨gb151,0,none⟩ = some (.int .i64 a1_0):=(kC BK151.out 0).trans rfl;have hcz24_1 : w23.cell? ⟨gb151,1,none⟩ = some (.int .i64 a1_1):=(kC BK151.out 1).trans rfl;have hcz24_2 : w23.cell? ⟨gb151,2,none⟩ = some (.int .i64 a1_2):=(kC BK151.out 2).trans rfl;have hcz24_3 : w23.cell? ⟨gb151,3,none⟩ = some (.int .i64 a1_3):=(kC BK151.out 3).trans rfl;have hfz24_0:=blk_frozen BK151.out 0;have hfz24_1:=blk_frozen BK151.out 1;have hfz24_2:=blk_frozen BK151.out 2;have hfz24_3:=blk_frozen BK151.out 3)|(go_at_call 57;(with_reducible refine (key_box.calls a1_0 a1_1 a1_2 a1_3 true _ A5.out).mono ?_);rintro e w25 ⟨rfl,hb⟩;have n0_:=Kb BK150 hb;have n1_:=Kb BK151 hb;have n2_:=Kh HB hb;clear BK150;clear BK151;clear HB;have BK150:=n0_;have BK151:=n1_;have HB:=n2_;clear n0_ n1_ n2_;(try clear hb);(try clear hb2);(try clear hk);(try clear hi);have hcz26_0 : w25.cell? ⟨gb150,0,none⟩ = some (.int .i64 a0_0):=(kC BK150.out 0).trans rfl;have hcz26_1 : w25.cell? ⟨gb150,1,none⟩ = some (.int .i64 a0_1):=(kC BK150.out 1).trans rfl;have hcz26_2 : w25.cell? ⟨gb150,2,none⟩ = some (.int .i64 a0_2):=(kC BK150.out 2).trans rfl;have hcz26_3 : w25.cell? ⟨gb150,3,none⟩ = some (.int .i64 a0_3):=(kC BK150.out 3).trans rfl;have hfz26_0:=blk_frozen BK150.out 0;have hfz26_1:=blk_frozen BK150.out 1;have hfz26_2:=blk_frozen BK150.out 2;have hfz26_3:=blk_frozen BK150.out 3;have hcz27_0 : w25.cell? ⟨gb151,0,none⟩ = some (.int .i64 a1_0):=(kC BK151.out 0).trans rfl;have hcz27_1 : w25.cell? ⟨gb151,1,none⟩ = some (.int .i64 a1_1):=(kC BK151.out 1).trans rfl;have hcz27_2 : w25.cell? ⟨gb151,2,none⟩ = some (.int .i64 a1_2):=(kC BK151.out 2).trans rfl;have hcz27_3 : w25.cell? ⟨gb151,3,none⟩ = some (.int .i64 a1_3):=(kC BK151.out 3).trans rfl;have hfz27_0:=blk_frozen BK151.out 0;have hfz27_1:=blk_frozen BK151.out 1;have hfz27_2:=blk_frozen BK151.out 2;have hfz27_3:=blk_frozen BK151.out 3))
      go_ret
      exact ⟨by first|rfl|(simp [errW_none,errW_some] <;> rfl)|(simp [*,errW_none,errW_some] <;> rfl),by repeat (first|(with_reducible first|exact HB.out|apply bA|apply bN|apply bD|refine bS ?_ GE150.out|refine bS ?_ GE151.out)|exact HB.out)⟩
    ·rw [if_neg c8] at H
     have c8b0 : decide (a1_0 ≤ a0_1) = false:=decide_eq_false c8
     clear c8
     obtain rfl:=Option.some.inj H
     go_enter Try.func34,Try.ntmps34
     go_wp2_with (first|((with_reducible refine gate_dst (N:=2) rfl ?_);refine box_event ?hg (N:=2) ?hd (cs:=#[.int .i64 a0_0,.int .i64 a0_1,.int .i64 a0_2,.int .i64 a0_3]) (t:=35) ?hr ?_;(case hd => rfl);(case hg => rfl);(case hr => first|(go_simp;done)|(go_simp;rfl));intro gb150 hg w28 hbox hb;have n0_:=Kh HB hb;have n1_:=Ak (hbox);have n2_:=Ak ((by rw [hg];exact (below_size HB.out) : w.heap.size ≤ gb150));have n3_:=Ak ((by rw [hg];exact (below_size HB.out) : w.heap.size ≤ gb150));clear HB;have HB:=n0_;have BK150:=n1_;have GW150:=n2_;have GE150:=n3_;clear n0_ n1_ n2_ n3_;clear hb hbox hg)|((with_reducible refine gate_dst (N:=3) rfl ?_);refine box_event ?hg (N:=3) ?hd (cs:=#[.int .i64 a1_0,.int .i64 a1_1,.int .i64 a1_2,.int .i64 a1_3]) (t:=35) ?hr ?_;(case hd => rfl);(case hg => rfl);(case hr => first|(go_simp;done)|(go_simp;rfl));intro gb151 hg w29 hbox hb;have n0_:=Kb BK150 hb;have n1_:=Kh HB hb;have n2_:=Ak (hbox);have n3_:=Ak ((by rw [hg];exact (below_size HB.out) : w.heap.size ≤ gb151));have n4_:=Ak ((by rw [hg];exact (below_size HB.out) : w.heap.size ≤ gb151));have n5_:=Ak ((by rw [hg];exact Nat.ne_of_lt (blk_lt (g:=gb150) (o:=.cells #[.int .i64 a0_0,.int .i64 a0_1,.int .i64 a0_2,.int .i64 a0_3] 35 (0,0)) BK150.out) : gb150 ≠ gb151));have n6_:=Ak ((by rw [hg];exact Nat.ne_of_gt (blk_lt (g:=gb150) (o:=.cells #[.int .i64 a0_0,.int .i64 a0_1,.int .i64 a0_2,.int .i64 a0_3] 35 (0,0)) BK150.out) : gb151 ≠ gb150));clear BK150;clear HB;have BK150:=n0_;have HB:=n1_;have BK151:=n2_;have GW151:=n3_;have GE151:=n4_;have NB150_151:=n5_;have NB151_150:=n6_;clear n0_ n1_ n2_ n3_ n4_ n5_ n6_;clear hb hbox hg;have hnb30:=NB150_151.out;have hnc30:=NB151_150.out;have hcz31_0 : w29.cell? ⟨gb150,0,none⟩ = some (.int .i64 a0_0):=(kC BK150.out 0).trans rfl;have hcz31_1 : w29.cell? ⟨gb150,1,none⟩ = some (.int .i64 a0_1):=(kC BK150.out 1).trans rfl;have hcz31_2 : w29.cell? ⟨gb150,2,none⟩ = some (.int .i64 a0_2):=(kC BK150.out 2).trans rfl;have hcz31_3 : w29.cell? ⟨gb150,3,none⟩ = some (.int .i64 a0_3):=(kC BK150.out 3).trans rfl;have hfz31_0:=blk_frozen BK150.out 0;have hfz31_1:=blk_frozen BK150.out 1;have hfz31_2:=blk_frozen BK150.out 2;have hfz31_3:=blk_frozen BK150.out 3)|((with_reducible refine gate_callee (f:=57) rfl ?_);refine goesL_ (some 6) rfl rfl Try.func57 (by kernel_rfl) rfl #[.agg #[.int .i64 a0_0,.int .i64 a0_1,.int .i64 a0_2,.int .i64 a0_3]] rfl (by (try simp only [List.map_toArray,List.map_cons,List.map_nil]);first|done|rfl|(simp only [List.length_drop,List.length_take];rfl)) ?_;(with_reducible refine (key_box.calls a0_0 a0_1 a0_2 a0_3 true _ A3.out).mono ?_);rintro e w32 ⟨rfl,hb⟩;refine ⟨_,rfl,?_⟩;have n0_:=Kb BK150 hb;have n1_:=Kb BK151 hb;have n2_:=Kh HB hb;clear BK150;clear BK151;clear HB;have BK150:=n0_;have BK151:=n1_;have HB:=n2_;clear n0_ n1_ n2_;(try clear hb);(try clear hb2);(try clear hk);(try clear hi);have hcz33_0 : w32.cell? ⟨gb151,0,none⟩ = some (.int .i64 a1_0):=(kC BK151.out 0).trans rfl;have hcz33_1 : w32.cell? ⟨gb151,1,none⟩ = some (.int .i64 a1_1):=(kC BK151.out 1).trans rfl;have hcz33_2 : w32.cell? ⟨gb151,2,none⟩ = some (.int .i64 a1_2):=(kC BK151.out 2).trans rfl;have hcz33_3 : w32.cell? ⟨gb151,3,none⟩ = some (.int .i64 a1_3):=(kC BK151.out 3).trans rfl;have hfz33_0:=blk_frozen BK151.out 0;have hfz33_1:=blk_frozen BK151.out 1;have hfz33_2:=blk_frozen BK151.out 2;have hfz33_3:=blk_frozen BK151.out 3)|(go_at_call 57;(with_reducible refine (key_box.calls a1_0 a1_1 a1_2 a1_3 true _ A5.out).mono ?_);rintro e w34 ⟨rfl,hb⟩;have n0_:=Kb BK150 hb;have n1_:=Kb BK151 hb;have n2_:=Kh HB hb;clear BK150;clear BK151;clear HB;have BK150:=n0_;have BK151:=n1_;have HB:=n2_;clear n0_ n1_ n2_;(try clear hb);(try clear hb2);(try clear hk);(try clear hi);have hcz35_0 : w34.cell? ⟨gb150,0,none⟩ = some (.int .i64 a0_0):=(kC BK150.out 0).trans rfl;have hcz35_1 : w34.cell? ⟨gb150,1,none⟩ = some (.int .i64 a0_1):=(kC BK150.out 1).trans rfl;have hcz35_2 : w34.cell? ⟨gb150,2,none⟩ = some (.int .i64 a0_2):=(kC BK150.out 2).trans rfl;have hcz35_3 : w34.cell? ⟨gb150,3,none⟩ = some (.int .i64 a0_3):=(kC BK150.out 3).trans rfl;have hfz35_0:=blk_frozen BK150.out 0;have hfz35_1:=blk_frozen BK150.out 1;have hfz35_2:=blk_frozen BK150.out 2;have hfz35_3:=blk_frozen BK150.out 3;have hcz36_0 : w34.cell? ⟨gb151,0,none⟩ = some (.int .i64 a1_0):=(kC BK151.out 0).trans rfl;have hcz36_1 : w34.cell? ⟨gb151,1,none⟩ = some (.int .i64 a1_1):=(kC BK151.out 1).trans rfl;have hcz36_2 : w34.cell? ⟨gb151,2,none⟩ = some (.int .i64 a1_2):=(kC BK151.out 2).trans rfl;have hcz36_3 : w34.cell? ⟨gb151,3,none⟩ = some (.int .i64 a1_3):=(kC BK151.out 3).trans rfl;have hfz36_0:=blk_frozen BK151.out 0;have hfz36_1:=blk_frozen BK151.out 1;have hfz36_2:=blk_frozen BK151.out 2;have hfz36_3:=blk_frozen BK151.out 3))
     go_ret
     exact ⟨by first|rfl|(simp [errW_none,errW_some] <;> rfl)|(simp [*,errW_none,errW_some] <;> rfl),by repeat (first|(with_reducible first|exact HB.out|apply bA|apply bN|apply bD|refine bS ?_ GE150.out|refine bS ?_ GE151.out)|exact HB.out)⟩
   ·rw [if_neg c7] at H
    have c7b0 : decide (a0_0 ≤ a1_1) = false:=decide_eq_false c7
    clear c7
    obtain rfl:=Option.some.inj H
    go_enter Try.func34,Try.ntmps34
    go_wp2_with (first|((with_reducible refine gate_dst (N:=2) rfl ?_);refine box_event ?hg (N:=2) ?hd (cs:=#[.int .i64 a0_0,.int .i64 a0_1,.int .i64 a0_2,.int .i64 a0_3]) (t:=35) ?hr ?_;(case hd => rfl);(case hg => rfl);(case hr => first|(go_simp;done)|(go_simp;rfl));intro gb150 hg w37 hbox hb;have n0_:=Kh HB hb;have n1_:=Ak (hbox);have n2_:=Ak ((by rw [hg];exact (below_size HB.out) : w.heap.size ≤ gb150));have n3_:=Ak ((by rw [hg];exact (below_size HB.out) : w.heap.size ≤ gb150));clear HB;have HB:=n0_;have BK150:=n1_;have GW150:=n2_;have GE150:=n3_;clear n0_ n1_ n2_ n3_;clear hb hbox hg)|((with_reducible refine gate_dst (N:=3) rfl ?_);refine box_event ?hg (N:=3) ?hd (cs:=#[.int .i64 a1_0,.int .i64 a1_1,.int .i64 a1_2,.int .i64 a1_3]) (t:=35) ?hr ?_;(case hd => rfl);(case hg => rfl);(case hr => first|(go_simp;done)|(go_simp;rfl));intro gb151 hg w38 hbox hb;have n0_:=Kb BK150 hb;have n1_:=Kh HB hb;have n2_:=Ak (hbox);have n3_:=Ak ((by rw [hg];exact (below_size HB.out) : w.heap.size ≤ gb151));have n4_:=Ak ((by rw [hg];exact (below_size HB.out) : w.heap.size ≤ gb151));have n5_:=Ak ((by rw [hg];exact Nat.ne_of_lt (blk_lt (g:=gb150) (o:=.cells #[.int .i64 a0_0,.int .i64 a0_1,.int .i64 a0_2,.int .i64 a0_3] 35 (0,0)) BK150.out) : gb150 ≠ gb151));have n6_:=Ak ((by rw [hg];exact Nat.ne_of_gt (blk_lt (g:=gb150) (o:=.cells #[.int .i64 a0_0,.int .i64 a0_1,.int .i64 a0_2,.int .i64 a0_3] 35 (0,0)) BK150.out) : gb151 ≠ gb150));clear BK150;clear HB;have BK150:=n0_;have HB:=n1_;have BK151:=n2_;have GW151:=n3_;have GE151:=n4_;have NB150_151:=n5_;have NB151_150:=n6_;clear n0_ n1_ n2_ n3_ n4_ n5_ n6_;clear hb hbox hg;have hnb39:=NB150_151.out;have hnc39:=NB151_150.out;have hcz40_0 : w38.cell? ⟨gb150,0,none⟩ = some (.int .i64 a0_0):=(kC BK150.out 0).trans rfl;have hcz40_1 : w38.cell? ⟨gb150,1,none⟩ = some (.int .i64 a0_1):=(kC BK150.out 1).trans rfl;have hcz40_2 : w38.cell? ⟨gb150,2,none⟩ = some (.int .i64 a0_2):=(kC BK150.out 2).trans rfl;have hcz40_3 : w38.cell? ⟨gb150,3,none⟩ = some (.int .i64 a0_3):=(kC BK150.out 3).trans rfl;have hfz40_0:=blk_frozen BK150.out 0;have hfz40_1:=blk_frozen BK150.out 1;have hfz40_2:=blk_frozen BK150.out 2;have hfz40_3:=blk_frozen BK150.out 3)|((with_reducible refine gate_callee (f:=57) rfl ?_);refine goesL_ (some 6) rfl rfl Try.func57 (by kernel_rfl) rfl #[.agg #[.int .i64 a0_0,.int .i64 a0_1,.int .i64 a0_2,.int .i64 a0_3]] rfl (by (try simp only [List.map_toArray,List.map_cons,List.map_nil]);first|done|rfl|(simp only [List.length_drop,List.length_take];rfl)) ?_;(with_reducible refine (key_box.calls a0_0 a0_1 a0_2 a0_3 true _ A3.out).mono ?_);rintro e w41 ⟨rfl,hb⟩;refine ⟨_,rfl,?_⟩;have n0_:=Kb BK150 hb;have n1_:=Kb BK151 hb;have n2_:=Kh HB hb;clear BK150;clear BK151;clear HB;have BK150:=n0_;have BK151:=n1_;have HB:=n2_;clear n0_ n1_ n2_;(try clear hb);(try clear hb2);(try clear hk);(try clear hi);have hcz42_0 : w41.cell? ⟨gb151,0,none⟩ = some (.int .i64 a1_0):=(kC BK151.out 0).trans rfl;have hcz42_1 : w41.cell? ⟨gb151,1,none⟩ = some (.int .i64 a1_1):=(kC BK151.out 1).trans rfl;have hcz42_2 : w41.cell? ⟨gb151,2,none⟩ = some (.int .i64 a1_2):=(kC BK151.out 2).trans rfl;have hcz42_3 : w41.cell? ⟨gb151,3,none⟩ = some (.int .i64 a1_3):=(kC BK151.out 3).trans rfl;have hfz42_0:=blk_frozen BK151.out 0;have hfz42_1:=blk_frozen BK151.out 1;have hfz42_2:=blk_frozen BK151.out 2;have hfz42_3:=blk_frozen BK151.out 3)|(go_at_call 57;(with_reducible refine (key_box.calls a1_0 a1_1 a1_2 a1_3 true _ A5.out).mono ?_);rintro e w43 ⟨rfl,hb⟩;have n0_:=Kb BK150 hb;have n1_:=Kb BK151 hb;have n2_:=Kh HB hb;clear BK150;clear BK151;clear HB;have BK150:=n0_;have BK151:=n1_;have HB:=n2_;clear n0_ n1_ n2_;(try clear hb);(try clear hb2);(try clear hk);(try clear hi);have hcz44_0 : w43.cell? ⟨gb150,0,none⟩ = some (.int .i64 a0_0):=(kC BK150.out 0).trans rfl;have hcz44_1 : w43.cell? ⟨gb150,1,none⟩ = some (.int .i64 a0_1):=(kC BK150.out 1).trans rfl;have hcz44_2 : w43.cell? ⟨gb150,2,none⟩ = some (.int .i64 a0_2):=(kC BK150.out 2).trans rfl;have hcz44_3 : w43.cell? ⟨gb150,3,none⟩ = some (.int .i64 a0_3):=(kC BK150.out 3).trans rfl;have hfz44_0:=blk_frozen BK150.out 0;have hfz44_1:=blk_frozen BK150.out 1;have hfz44_2:=blk_frozen BK150.out 2;have hfz44_3:=blk_frozen BK150.out 3;have hcz45_0 : w43.cell? ⟨gb151,0,none⟩ = some (.int .i64 a1_0):=(kC BK151.out 0).trans rfl;have hcz45_1 : w43.cell? ⟨gb151,1,none⟩ = some (.int .i64 a1_1):=(kC BK151.out 1).trans rfl;have hcz45_2 : w43.cell? ⟨gb151,2,none⟩ = some (.int .i64 a1_2):=(kC BK151.out 2).trans rfl;have hcz45_3 : w43.cell? ⟨gb151,3,none⟩ = some (.int .i64 a1_3):=(kC BK151.out 3).trans rfl;have hfz45_0:=blk_frozen BK151.out 0;have hfz45_1:=blk_frozen BK151.out 1;have hfz45_2:=blk_frozen BK151.out 2;have hfz45_3:=blk_frozen BK151.out 3))
    go_ret
    exact ⟨by first|rfl|(simp [errW_none,errW_some] <;> rfl)|(simp [*,errW_none,errW_some] <;> rfl),by repeat (first|(with_reducible first|exact HB.out|apply bA|apply bN|apply bD|refine bS ?_ GE150.out|refine bS ?_ GE151.out)|exact HB.out)⟩
  ·replace c6:=Bool.eq_false_iff.mpr c6
   subst c6
   have H1 : (some false) = some r:=by rw [if_neg (show ¬ (false = true) by decide)] at H;exact H
   clear H
   have H:=H1
   clear H1
   obtain rfl:=Option.some.inj H
   go_enter Try.func34,Try.ntmps34
   go_wp2_with (first|((with_reducible refine gate_dst (N:=2) rfl ?_);refine box_event ?hg (N:=2) ?hd (cs:=#[.int .i64 a0_0,.int .i64 a0_1,.int .i64 a0_2,.int .i64 a0_3]) (t:=35) ?hr ?_;(case hd => rfl);(case hg => rfl);(case hr => first|(go_simp;done)|(go_simp;rfl));intro gb150 hg w46 hbox hb;have n0_:=Kh HB hb;have n1_:=Ak (hbox);have n2_:=Ak ((by rw [hg];exact (below_size HB.out) : w.heap.size ≤ gb150));have n3_:=Ak ((by rw [hg];exact (below_size HB.out) : w.heap.size ≤ gb150));clear HB;have HB:=n0_;have BK150:=n1_;have GW150:=n2_;have GE150:=n3_;clear n0_ n1_ n2_ n3_;clear hb hbox hg)|((with_reducible refine gate_dst (N:=3) rfl ?_);refine box_event ?hg (N:=3) ?hd (cs:=#[.int .i64 a1_0,.int .i64 a1_1,.int .i64 a1_2,.int .i64 a1_3]) (t:=35) ?hr ?_;(case hd => rfl);(case hg => rfl);(case hr => first|(go_simp;done)|(go_simp;rfl));intro gb151 hg w47 hbox hb;have n0_:=Kb BK150 hb;have n1_:=Kh HB hb;have n2_:=Ak (hbox);have n3_:=Ak ((by rw [hg];exact (below_size HB.out) : w.heap.size ≤ gb151));have n4_:=Ak ((by rw [hg];exact (below_size HB.out) : w.heap.size ≤ gb151));have n5_:=Ak ((by rw [hg];exact Nat.ne_of_lt (blk_lt (g:=gb150) (o:=.cells #[.int .i64 a0_0,.int .i64 a0_1,.int .i64 a0_2,.int .i64 a0_3] 35 (0,0)) BK150.out) : gb150 ≠ gb151));have n6_:=Ak ((by rw [hg];exact Nat.ne_of_gt (blk_lt (g:=gb150) (o:=.cells #[.int .i64 a0_0,.int .i64 a0_1,.int .i64 a0_2,.int .i64 a0_3] 35 (0,0)) BK150.out) : gb151 ≠ gb150));clear BK150;clear HB;have BK150:=n0_;have HB:=n1_;have BK151:=n2_;have GW151:=n3_;have GE151:=n4_;have NB150_151:=n5_;have NB151_150:=n6_;clear n0_ n1_ n2_ n3_ n4_ n5_ n6_;clear hb hbox hg;have hnb48:=NB150_151.out;have hnc48:=NB151_150.out;have hcz49_0 : w47.cell? ⟨gb150,0,none⟩ = some (.int .i64 a0_0):=(kC BK150.out 0).trans rfl;have hcz49_1 : w47.cell? ⟨gb150,1,none⟩ = some (.int .i64 a0_1):=(kC BK150.out 1).trans rfl;have hcz49_2 : w47.cell? ⟨gb150,2,none⟩ = some (.int .i64 a0_2):=(kC BK150.out 2).trans rfl;have hcz49_3 : w47.cell? ⟨gb150,3,none⟩ = some (.int .i64 a0_3):=(kC BK150.out 3).trans rfl;have hfz49_0:=blk_frozen BK150.out 0;have hfz49_1:=blk_frozen BK150.out 1;have hfz49_2:=blk_frozen BK150.out 2;have hfz49_3:=blk_frozen BK150.out 3)|((with_reducible refine gate_callee (f:=57) rfl ?_);refine goesL_ (some 6) rfl rfl Try.func57 (by kernel_rfl) rfl #[.agg #[.int .i64 a0_0,.int .i64 a0_1,.int .i64 a0_2,.int .i64 a0_3]] rfl (by (try simp only [List.map_toArray,List.map_cons,List.map_nil]);first|done|rfl|(simp only [List.length_drop,List.length_take];rfl)) ?_;(with_reducible refine (key_box.calls a0_0 a0_1 a0_2 a0_3 true _ A3.out).mono ?_);rintro e w50 ⟨rfl,hb⟩;refine ⟨_,rfl,?_⟩;have n0_:=Kb BK150 hb;have n1_:=Kb BK151 hb;have n2_:=Kh HB hb;clear BK150;clear BK151;clear HB;have BK150:=n0_;have BK151:=n1_;have HB:=n2_;clear n0_ n1_ n2_;(try clear hb);(try clear hb2);(try clear hk);(try clear hi);have hcz51_0 : w50.cell? ⟨gb151,0,none⟩ = some (.int .i64 a1_0):=(kC BK151.out 0).trans rfl;have hcz51_1 : w50.cell? ⟨gb151,1,none⟩ = some (.int .i64 a1_1):=(kC BK151.out 1).trans rfl;have hcz51_2 : w50.cell? ⟨gb151,2,none⟩ = some (.int .i64 a1_2):=(kC BK151.out 2).trans rfl;have hcz51_3 : w50.cell? ⟨gb151,3,none⟩ = some (.int .i64 a1_3):=(kC BK151.out 3).trans rfl;have hfz51_0:=blk_frozen BK151.out 0;have hfz51_1:=blk_frozen BK151.out 1;have hfz51_2:=blk_frozen BK151.out 2;have hfz51_3:=blk_frozen BK151.out 3)|(go_at_call 57;(with_reducible refine (key_box.calls a1_0 a1_1 a1_2 a1_3 false _ A5.out).mono ?_);rintro e w52 ⟨rfl,hb⟩;have n0_:=Kb BK150 hb;have n1_:=Kb BK151 hb;have n2_:=Kh HB hb;clear BK150;clear BK151;clear HB;have BK150:=n0_;have BK151:=n1_;have HB:=n2_;clear n0_ n1_ n2_;(try clear hb);(try clear hb2);(try clear hk);(try clear hi)))
   go_ret
   exact ⟨by first|rfl|(simp [errW_none,errW_some] <;> rfl)|(simp [*,errW_none,errW_some] <;> rfl),by repeat (first|(with_reducible first|exact HB.out|apply bA|apply bN|apply bD|refine bS ?_ GE150.out|refine bS ?_ GE151.out)|exact HB.out)⟩
 ·replace c4:=Bool.eq_false_iff.mpr c4
  subst c4
  have H1 : (some false) = some r:=by rw [if_neg (show ¬ (false = true) by decide)] at H;exact H
  clear H
  have H:=H1
  clear H1
  obtain rfl:=Option.some.inj H
  go_enter Try.func34,Try.ntmps34
  go_wp2_with (first|((with_reducible refine gate_dst (N:=2) rfl ?_);refine box_event ?hg (N:=2) ?hd (cs:=#[.int .i64 a0_0,.int .i64 a0_1,.int .i64 a0_2,.int .i64 a0_3]) (t:=35) ?hr ?_;(case hd => rfl);(case hg => rfl);(case hr => first|(go_simp;done)|(go_simp;rfl));intro gb150 hg w53 hbox hb;have n0_:=Kh HB hb;have n1_:=Ak (hbox);have n2_:=Ak ((by rw [hg];exact (below_size HB.out) : w.heap.size ≤ gb150));have n3_:=Ak ((by rw [hg];exact (below_size HB.out) : w.heap.size ≤ gb150));clear HB;have HB:=n0_;have BK150:=n1_;have GW150:=n2_;have GE150:=n3_;clear n0_ n1_ n2_ n3_;clear hb hbox hg)|((with_reducible refine gate_dst (N:=3) rfl ?_);refine box_event ?hg (N:=3) ?hd (cs:=#[.int .i64 a1_0,.int .i64 a1_1,.int .i64 a1_2,.int .i64 a1_3]) (t:=35) ?hr ?_;(case hd => rfl);(case hg => rfl);(case hr => first|(go_simp;done)|(go_simp;rfl));intro gb151 hg w54 hbox hb;have n0_:=Kb BK150 hb;have n1_:=Kh HB hb;have n2_:=Ak (hbox);have n3_:=Ak ((by rw [hg];exact (below_size HB.out) : w.heap.size ≤ gb151));have n4_:=Ak ((by rw [hg];exact (below_size HB.out) : w.heap.size ≤ gb151));have n5_:=Ak ((by rw [hg];exact Nat.ne_of_lt (blk_lt (g:=gb150) (o:=.cells #[.int .i64 a0_0,.int .i64 a0_1,.int .i64 a0_2,.int .i64 a0_3] 35 (0,0)) BK150.out) : gb150 ≠ gb151));have n6_:=Ak ((by rw [hg];exact Nat.ne_of_gt (blk_lt (g:=gb150) (o:=.cells #[.int .i64 a0_0,.int .i64 a0_1,.int .i64 a0_2,.int .i64 a0_3] 35 (0,0)) BK150.out) : gb151 ≠ gb150));clear BK150;clear HB;have BK150:=n0_;have HB:=n1_;have BK151:=n2_;have GW151:=n3_;have GE151:=n4_;have NB150_151:=n5_;have NB151_150:=n6_;clear n0_ n1_ n2_ n3_ n4_ n5_ n6_;clear hb hbox hg;have hnb55:=NB150_151.out;have hnc55:=NB151_150.out;have hcz56_0 : w54.cell? ⟨gb150,0,none⟩ = some (.int .i64 a0_0):=(kC BK150.out 0).trans rfl;have hcz56_1 : w54.cell? ⟨gb150,1,none⟩ = some (.int .i64 a0_1):=(kC BK150.out 1).trans rfl;have hcz56_2 : w54.cell? ⟨gb150,2,none⟩ = some (.int .i64 a0_2):=(kC BK150.out 2).trans rfl;have hcz56_3 : w54.cell? ⟨gb150,3,none⟩ = some (.int .i64 a0_3):=(kC BK150.out 3).trans rfl;have hfz56_0:=blk_frozen BK150.out 0;have hfz56_1:=blk_frozen BK150.out 1;have hfz56_2:=blk_frozen BK150.out 2;have hfz56_3:=blk_frozen BK150.out 3)|((with_reducible refine gate_callee (f:=57) rfl ?_);refine goesL_ (some 6) rfl rfl Try.func57 (by kernel_rfl) rfl #[.agg #[.int .i64 a0_0,.int .i64 a0_1,.int .i64 a0_2,.int .i64 a0_3]] rfl (by (try simp only [List.map_toArray,List.map_cons,List.map_nil]);first|done|rfl|(simp only [List.length_drop,List.length_take];rfl)) ?_;(with_reducible refine (key_box.calls a0_0 a0_1 a0_2 a0_3 false _ A3.out).mono ?_);rintro e w57 ⟨rfl,hb⟩;refine ⟨_,rfl,?_⟩;have n0_:=Kb BK150 hb;have n1_:=Kb BK151 hb;have n2_:=Kh HB hb;clear BK150;clear BK151;clear HB;have BK150:=n0_;have BK151:=n1_;have HB:=n2_;clear n0_ n1_ n2_;(try clear hb);(try clear hb2);(try clear hk);(try clear hi)))
  go_ret
  exact ⟨by first|rfl|(simp [errW_none,errW_some] <;> rfl)|(simp [*,errW_none,errW_some] <;> rfl),by repeat (first|(with_reducible first|exact HB.out|apply bA|apply bN|apply bD|refine bS ?_ GE150.out|refine bS ?_ GE151.out)|exact HB.out)⟩
def gazetteerlaw09_wakes.f (k : Nat)  : Option (Bool) := (key_Part.f k (([(⟨0, 0, 0, 0⟩ : S35), (⟨1, 1, 0, 0⟩ : S35), (⟨9, 9, 9, 9⟩ : S35), (⟨8, 8, 9, 9⟩ : S35)] : List (S35)))).bind fun bt157 => (if bt157.2.2 = 0 then (if (bt157.1.length : Int) = 2 then (if (bt157.2.1.length : Int) = 2 then (if 1 < (bt157.1.length : Int) then (if (rd bt157.1 1) = 1 then (if 0 < (bt157.2.1.length : Int) then (if (rd bt157.2.1 0) = 2 then ((key_Meets.f 0 2 0 2 2 3 2 3).bind fun t166 => (some t166)) else (some false)) else (none)) else (some false)) else (none)) else (some false)) else (some false)) else (some false))
set_option maxHeartbeats 8000000 in
set_option maxRecDepth 100000 in
theorem gazetteerlaw09_wakes.calls (k : Nat)  (r : Bool) (w : World) (h : gazetteerlaw09_wakes.f k  = some r) :
  Calls Try.prog 32 #[] w fun e w' => e = .returned (.bool r)∧Below w.heap.size w w':=by
 have hu35:=Try.underlying35
 have HB:=Ak (Below.refl w.heap.size w)
 have H : ((key_Part.f k (([(⟨0,0,0,0⟩ : S35),(⟨1,1,0,0⟩ : S35),(⟨9,9,9,9⟩ : S35),(⟨8,8,9,9⟩ : S35)] : List (S35)))).bind fun bt157 => (if bt157.2.2 = 0 then (if (bt157.1.length : Int) = 2 then (if (bt157.2.1.length : Int) = 2 then (if 1 < (bt157.1.length : Int) then (if (rd bt157.1 1) = 1 then (if 0 < (bt157.2.1.length : Int) then (if (rd bt157.2.1 0) = 2 then ((key_Meets.f 0 2 0 2 2 3 2 3).bind fun t166 => (some t166)) else (some false)) else (none)) else (some false)) else (none)) else (some false)) else (some false)) else (some false))) = some r:=h
 clear h
 obtain ⟨y154,hy154⟩ : ∃ y_ : List (S35),y_ = (([(⟨0,0,0,0⟩ : S35),(⟨1,1,0,0⟩ : S35),(⟨9,9,9,9⟩ : S35),(⟨8,8,9,9⟩ : S35)] : List (S35))):=⟨_,rfl⟩
 replace H : ((key_Part.f k y154).bind fun bt157 => (if bt157.2.2 = 0 then (if (bt157.1.length : Int) = 2 then (if (bt157.2.1.length : Int) = 2 then (if 1 < (bt157.1.length : Int) then (if (rd bt157.1 1) = 1 then (if 0 < (bt157.2.1.length : Int) then (if (rd bt157.2.1 0) = 2 then ((key_Meets.f 0 2 0 2 2 3 2 3).bind fun t166 => (some t166)) else (some false)) else (none)) else (some false)) else (none)) else (some false)) else (some false)) else (some false))) = some r:=by first|(rw [hy154];with_reducible exact H)|(have H2_:=(Option.bind_some _ _).symm.trans H;rw [hy154];with_reducible exact H2_)|(have H2_:=(Option.bind_some _ _).symm.trans H;with_reducible exact H2_)|with_reducible exact H|(rw [hy154];exact H)|exact H
 have Ny154:=Ak hy154
 clear hy154
 replace H:=Option.bind_eq_some_iff.mp H
 obtain ⟨⟨t157,t158,t159⟩,A10,H⟩:=H
 replace H : (if t159 = 0 then (if (t157.length : Int) = 2 then (if (t158.length : Int) = 2 then (if 1 < (t157.length : Int) then (if (rd t157 1) = 1 then (if 0 < (t158.length : Int) then (if (rd t158 0) = 2 then ((key_Meets.f 0 2 0 2 2 3 2 3).bind fun t166 => (some t166)) else (some false)) else (none)) else (some false)) else (none)) else (some false)) else (some false)) else (some false)) = some r:=H
 have A1:=Ak A10
 clear A10
 by_cases c2 : t159 = 0
 ·rw [if_pos c2] at H
  have c2b0 : (t159 == 0) = true:=beq_iff_eq.mpr c2
  have c2b1 : (t159 != 0) = false:=bne_eq_false_iff_eq.mpr c2
  clear c2
  by_cases c3 : (t157.length : Int) = 2
  ·rw [if_pos c3] at H
   have c3b0 : ((t157.length : Int) == 2) = true:=beq_iff_eq.mpr c3
   have c3b1 : ((t157.length : Int) != 2) = false:=bne_eq_false_iff_eq.mpr c3
   clear c3
   by_cases c4 : (t158.length : Int) = 2
   ·rw [if_pos c4] at H
    have c4b0 : ((t158.length : Int) == 2) = true:=beq_iff_eq.mpr c4
    have c4b1 : ((t158.length : Int) != 2) = false:=bne_eq_false_iff_eq.mpr c4
    clear c4
    by_cases c5 : 1 < (t157.length : Int)
    ·rw [if_pos c5] at H
     have c5b0 : decide (1 < (t157.length : Int)) = true:=decide_eq_true c5
     have c5b1 : decide (1 < t157.length) = true:=decide_eq_true (by omega)
     clear c5
     by_cases c6 : (rd t157 1) = 1
     ·rw [if_pos c6] at H
      have c6b0 : ((rd t157 1) == 1) = true:=beq_iff_eq.mpr c6
      have c6b1 : ((rd t157 1) != 1) = false:=bne_eq_false_iff_eq.mpr c6
      clear c6
      by_cases c7 : 0 < (t158.length : Int)
      ·rw [if_pos c7] at H
       have c7b0 : decide (0 < (t158.length : Int)) = true:=decide_eq_true c7
       have c7b1 : decide (0 < t158.length) = true:=decide_eq_true (by omega)
       clear c7
       by_cases c8 : (rd t158 0) = 2
       ·rw [if_pos c8] at H
        have c8b0 : ((rd t158 0) == 2) = true:=beq_iff_eq.mpr c8
        have c8b1 : ((rd t158 0) != 2) = false:=bne_eq_false_iff_eq.mpr c8
        clear c8
        replace H:=Option.bind_eq_some_iff.mp H
        obtain ⟨t166,A90,H⟩:=H
        replace H : (some t166) = some r:=H
        have A9:=Ak A90
        clear A90
        obtain rfl:=Option.some.inj H
        go_enter Try.func32,Try.ntmps32
        go_wp2_with (first|((with_reducible refine gate_dst (N:=9) rfl ?_);(try (refine gate_guard (by rfl) ?_;dsimp only));refine Kd.R_lit k35 _ 35 ?hg (N:=9) ?hd (xs:=([(⟨0,0,0,0⟩ : S35),(⟨1,1,0,0⟩ : S35),(⟨9,9,9,9⟩ : S35),(⟨8,8,9,9⟩ : S35)] : List (S35))) (inner:=[.int .i64 0,.int .i64 0,.int .i64 0,.int .i64 0,.int .i64 1,.int .i64 1,.int .i64 0,.int .i64 0,.int .i64 9,.int .i64 9,.int .i64 9,.int .i64 9,.int .i64 8,.int .i64 8,.int .i64 9,.int .i64 9]) (ok:=fun _ => True) (okp:=fun _ => True) ?hr ?hp (fun _ hk => hk) trivial (Below.refl _ _) (Nat.le_refl _) (by simp) ?_;(case hd => rfl);(case hg => rfl);(case hr => first|(go_simp;done)|(go_simp;rfl));(case hp => exact (Reps.c4 (show Kd.M k35 _ _ _ (⟨0,0,0,0⟩ : S35) [.int .i64 0,.int .i64 0,.int .i64 0,.int .i64 0] from (k35_mkM _ _ _ (⟨0,0,0,0⟩ : S35) )) (Reps.c4 (show Kd.M k35 _ _ _ (⟨1,1,0,0⟩ : S35) [.int .i64 1,.int .i64 1,.int .i64 0,.int .i64 0] from (k35_mkM _ _ _ (⟨1,1,0,0⟩ : S35) )) (Reps.c4 (show Kd.M k35 _ _ _ (⟨9,9,9,9⟩ : S35) [.int .i64 9,.int .i64 9,.int .i64 9,.int .i64 9] from (k35_mkM _ _ _ (⟨9,9,9,9⟩ : S35) )) (Reps.c4 (show Kd.M k35 _ _ _ (⟨8,8,9,9⟩ : S35) [.int .i64 8,.int .i64 8,.int .i64 9,.int .i64 9] from (k35_mkM _ _ _ (⟨8,8,9,9⟩ : S35) )) (Reps.none _ _))))));intro v155 w10 ho11 hb hg_ hnew_;clear hg_ hnew_;(first|rw [← Ny154.out] at ho11|(simp only [Int.reduceToNat] at ho11;rw [← Ny154.out] at ho11));have n0_:=Ak (Kd.R_lower ho11 (below_size HB.out));have n1_:=Kh HB hb;clear HB;have HO156:=n0_;have HB:=n1_;clear n0_ n1_;clear hb ho11;obtain ⟨Ao12,co12,eo12⟩:=Kd.R_slice HO156.out;subst eo12)|((with_reducible refine gate_callee (f:=33) rfl ?_);refine goesL_ (some 10) rfl rfl Try.func33 (by kernel_rfl) rfl #[.slice Ao12 y154.length co12] rfl (by (try simp only [List.map_toArray,List.map_cons,List.map_nil]);first|done|rfl|(simp only [List.length_drop,List.length_take];rfl)) ?_;(with_reducible refine (key_Part.calls k _ _ y154 t157 t158 t159 _ ?side1 ?side2 A1.out).mono ?_);(case side1 => repeat (first|exact (Kd.R_reads' HO156.out).2.2|(with_reducible refine Kd.C_alloc ?_ _)|(with_reducible refine Kd.C_drewN ?_ _)|(with_reducible refine Kd.C_drew ?_)));(case side2 => exact (Kd.R_reads' HO156.out).2.1);rintro e w13 ⟨v160,v162,rfl,ho0,ho1,hb⟩;refine ⟨_,rfl,?_⟩;have n0_:=Ak (Kd.R_below (by (with_reducible repeat (first|apply Kd.R_alloc|apply Kd.R_drewN|apply Kd.R_drew));exact HO156.out) hb);have n1_:=Ak (Kd.R_lower ho0 (below_size HB.out));have n2_:=Ak (Kd.R_lower ho1 (below_size HB.out));have n3_:=Kh HB hb;clear HO156;clear HB;have HO156:=n0_;have HO161:=n1_;have HO163:=n2_;have HB:=n3_;clear n0_ n1_ n2_ n3_;(try clear hb);(try clear hb2);(try clear hk);(try clear hi);(try clear ho0);(try clear ho1);obtain ⟨Ao14,co14,eo14⟩:=Kd.R_slice HO161.out;subst eo14;obtain ⟨Ao15,co15,eo15⟩:=Kd.R_slice HO163.out;subst eo15;have p164 : 0 ≤ (1 : Int):=(by omega);have q164 : 1 < (t157.length : Int):=of_decide_eq_true (by first|(with_reducible assumption)|assumption);obtain ⟨ad164,e164,hx164_0⟩:=Kd.at_int (Kd.R_reads' HO161.out).2.2 1 p164 q164;cases e164;(try simp only [show (1 : Int).toNat = 1 from rfl,Nat.reduceMul,Nat.reduceEqDiff,Go.Addr.add,↓reduceIte] at hx164_0);have qi164 : (1 < t157.length) = True:=eq_true (by omega);(try rw [show ((1 : Int)).toNat = 1 from rfl] at hx164_0);replace p164:=eq_true p164;replace q164:=eq_true q164;have p165 : 0 ≤ (0 : Int):=(by omega);have q165 : 0 < (t158.length : Int):=of_decide_eq_true (by first|(with_reducible assumption)|assumption);obtain ⟨ad165,e165,hx165_0⟩:=Kd.at_int (Kd.R_reads' HO163.out).2.2 0 p165 q165;cases e165;have qi165 : (0 < t158.length) = True:=eq_true (by omega);(try rw [show ((0 : Int)).toNat = 0 from rfl] at hx165_0);(try rw [Addr.add_zero'] at hx165_0);replace p165:=eq_true p165;replace q165:=eq_true q165)|(go_at_call 34;(with_reducible refine (key_Meets.calls 0 2 0 2 2 3 2 3 t166 _ A9.out).mono ?_);rintro e w16 ⟨rfl,hb⟩;have n0_:=Ak (Kd.R_below (by (with_reducible repeat (first|apply Kd.R_alloc|apply Kd.R_drewN|apply Kd.R_drew));exact HO156.out) hb);have n1_:=Ak (Kd.R_below (by (with_reducible repeat (first|apply Kd.R_alloc|apply Kd.R_drewN|apply Kd.R_drew));exact HO161.out) hb);have n2_:=Ak (Kd.R_below (by (with_reducible repeat (first|apply Kd.R_alloc|apply Kd.R_drewN|apply Kd.R_drew));exact HO163.out) hb);have n3_:=Kh HB hb;clear HO156;clear HO161;clear HO163;clear HB;have HO156:=n0_;have HO161:=n1_;have HO163:=n2_;have HB:=n3_;clear n0_ n1_ n2_ n3_;(try clear hb);(try clear hb2);(try clear hk);(try clear hi)))
        go_ret
        exact ⟨by first|rfl|(simp [errW_none,errW_some] <;> rfl)|(simp [*,errW_none,errW_some] <;> rfl),by repeat (first|(with_reducible first|exact HB.out|apply bA|apply bN|apply bD)|exact HB.out)⟩
       ·rw [if_neg c8] at H
        have c8b0 : ((rd t158 0) == 2) = false:=beq_eq_false_iff_ne.mpr c8
        have c8b1 : ((rd t158 0) != 2) = true:=bne_iff_ne.mpr c8
        obtain rfl:=Option.some.inj H
        go_enter Try.func32,Try.ntmps32
        go_wp2_with (first|((with_reducible refine gate_dst (N:=9) rfl ?_);(try (refine gate_guard (by rfl) ?_;dsimp only));refine Kd.R_lit k35 _ 35 ?hg (N:=9) ?hd (xs:=([(⟨0,0,0,0⟩ : S35),(⟨1,1,0,0⟩ : S35),(⟨9,9,9,9⟩ : S35),(⟨8,8,9,9⟩ : S35)] : List (S35))) (inner:=[.int .i64 0,.int .i64 0,.int .i64 0,.int .i64 0,.int .i64 1,.int .i64 1,.int .i64 0,.int .i64 0,.int .i64 9,.int .i64 9,.int .i64 9,.int .i64 9,.int .i64 8,.int .i64 8,.int .i64 9,.int .i64 9]) (ok:=fun _ => True) (okp:=fun _ => True) ?hr ?hp (fun _ hk => hk) trivial (Below.refl _ _) (Nat.le_refl _) (by simp) ?_;(case hd => rfl);(case hg => rfl);(case hr => first|(go_simp;done)|(go_simp;rfl));(case hp => exact (Reps.c4 (show Kd.M k35 _ _ _ (⟨0,0,0,0⟩ : S35) [.int .i64 0,.int .i64 0,.int .i64 0,.int .i64 0] from (k35_mkM _ _ _ (⟨0,0,0,0⟩ : S35) )) (Reps.c4 (show Kd.M k35 _ _ _ (⟨1,1,0,0⟩ : S35) [.int .i64 1,.int .i64 1,.int .i64 0,.int .i64 0] from (k35_mkM _ _ _ (⟨1,1,0,0⟩ : S35) )) (Reps.c4 (show Kd.M k35 _ _ _ (⟨9,9,9,9⟩ : S35) [.int .i64 9,.int .i64 9,.int .i64 9,.int .i64 9] from (k35_mkM _ _ _ (⟨9,9,9,9⟩ : S35) )) (Reps.c4 (show Kd.M k35 _ _ _ (⟨8,8,9,9⟩ : S35) [.int .i64 8,.int .i64 8,.int .i64 9,.int .i64 9] from (k35_mkM _ _ _ (⟨8,8,9,9⟩ : S35) )) (Reps.none _ _))))));intro v155 w17 ho18 hb hg_ hnew_;clear hg_ hnew_;(first|rw [← Ny154.out] at ho18|(simp only [Int.reduceToNat] at ho18;rw [← Ny154.out] at ho18));have n0_:=Ak (Kd.R_lower ho18 (below_size HB.out));have n1_:=Kh HB hb;clear HB;have HO156:=n0_;have HB:=n1_;clear n0_ n1_;clear hb ho18;obtain ⟨Ao19,co19,eo19⟩:=Kd.R_slice HO156.out;subst eo19)|((with_reducible refine gate_callee (f:=33) rfl ?_);refine goesL_ (some 10) rfl rfl Try.func33 (by kernel_rfl) rfl #[.slice Ao19 y154.length co19] rfl (by (try simp only [List.map_toArray,List.map_cons,List.map_nil]);first|done|rfl|(simp only [List.length_drop,List.length_take];rfl)) ?_;(with_reducible refine (key_Part.calls k _ _ y154 t157 t158 t159 _ ?side1 ?side2 A1.out).mono ?_);(case side1 => repeat (first|exact (Kd.R_reads' HO156.out).2.2|(with_reducible refine Kd.C_alloc ?_ _)|(with_reducible refine Kd.C_drewN ?_ _)|(with_reducible refine Kd.C_drew ?_)));(case side2 => exact (Kd.R_reads' HO156.out).2.1);rintro e w20 ⟨v160,v162,rfl,ho0,ho1,hb⟩;refine ⟨_,rfl,?_⟩;have n0_:=Ak (Kd.R_below (by (with_reducible repeat (first|apply Kd.R_alloc|apply Kd.R_drewN|apply Kd.R_drew));exact HO156.out) hb);have n1_:=Ak (Kd.R_lower ho0 (below_size HB.out));have n2_:=Ak (Kd.R_lower ho1 (below_size HB.out));have n3_:=Kh HB hb;clear HO156;clear HB;have HO156:=n0_;have HO161:=n1_;have HO163:=n2_;have HB:=n3_;clear n0_ n1_ n2_ n3_;(try clear hb);(try clear hb2);(try clear hk);(try clear hi);(try clear ho0);(try clear ho1);obtain ⟨Ao21,co21,eo21⟩:=Kd.R_slice HO161.out;subst eo21;obtain ⟨Ao22,co22,eo22⟩:=Kd.R_slice HO163.out;subst eo22;have p164 : 0 ≤ (1 : Int):=(by omega);have q164 : 1 < (t157.length : Int):=of_decide_eq_true (by first|(with_reducible assumption)|assumption);obtain ⟨ad164,e164,hx164_0⟩:=Kd.at_int (Kd.R_reads' HO161.out).2.2 1 p164 q164;cases e164;(try simp only [show (1 : Int).toNat = 1 from rfl,Nat.reduceMul,Nat.reduceEqDiff,Go.Addr.add,↓reduceIte] at hx164_0);have qi164 : (1 < t157.length) = True:=eq_true (by omega);(try rw [show ((1 : Int)).toNat = 1 from rfl] at hx164_0);replace p164:=eq_true p164;replace q164:=eq_true q164;have p165 : 0 ≤ (0 : Int):=(by omega);have q165 : 0 < (t158.length : Int):=of_decide_eq_true (by first|(with_reducible assumption)|assumption);obtain ⟨ad165,e165,hx165_0⟩:=Kd.at_int (Kd.R_reads' HO163.out).2.2 0 p165 q165;cases e165;have qi165 : (0 < t158.length) = True:=eq_true (by omega);(try rw [show ((0 : Int)).toNat = 0 from rfl] at hx165_0);(try rw [Addr.add_zero'] at hx165_0);replace p165:=eq_true p165;replace q165:=eq_true q165))
        go_ret
        exact ⟨by first|rfl|(simp [errW_none,errW_some] <;> rfl)|(simp [*,errW_none,errW_some] <;> rfl),by repeat (first|(with_reducible first|exact HB.out|apply bA|apply bN|apply bD)|exact HB.out)⟩
      ·rw [if_neg c7] at H
       exact absurd H (by simp)
     ·rw [if_neg c6] at H
      have c6b0 : ((rd t157 1) == 1) = false:=beq_eq_false_iff_ne.mpr c6
      have c6b1 : ((rd t157 1) != 1) = true:=bne_iff_ne.mpr c6
      obtain rfl:=Option.some.inj H
      go_enter Try.func32,Try.ntmps32
      go_wp2_with (first|((with_reducible refine gate_dst (N:=9) rfl ?_);(try (refine gate_guard (by rfl) ?_;dsimp only));refine Kd.R_lit k35 _ 35 ?hg (N:=9) ?hd (xs:=([(⟨0,0,0,0⟩ : S35),(⟨1,1,0,0⟩ : S35),(⟨9,9,9,9⟩ : S35),(⟨8,8,9,9⟩ : S35)] : List (S35))) (inner:=[.int .i64 0,.int .i64 0,.int .i64 0,.int .i64 0,.int .i64 1,.int .i64 1,.int .i64 0,.int .i64 0,.int .i64 9,.int .i64 9,.int .i64 9,.int .i64 9,.int .i64 8,.int .i64 8,.int .i64 9,.int .i64 9]) (ok:=fun _ => True) (okp:=fun _ => True) ?hr ?hp (fun _ hk => hk) trivial (Below.refl _ _) (Nat.le_refl _) (by simp) ?_;(case hd => rfl);(case hg => rfl);(case hr => first|(go_simp;done)|(go_simp;rfl));(case hp => exact (Reps.c4 (show Kd.M k35 _ _ _ (⟨0,0,0,0⟩ : S35) [.int .i64 0,.int .i64 0,.int .i64 0,.int .i64 0] from (k35_mkM _ _ _ (⟨0,0,0,0⟩ : S35) )) (Reps.c4 (show Kd.M k35 _ _ _ (⟨1,1,0,0⟩ : S35) [.int .i64 1,.int .i64 1,.int .i64 0,.int .i64 0] from (k35_mkM _ _ _ (⟨1,1,0,0⟩ : S35) )) (Reps.c4 (show Kd.M k35 _ _ _ (⟨9,9,9,9⟩ : S35) [.int .i64 9,.int .i64 9,.int .i64 9,.int .i64 9] from (k35_mkM _ _ _ (⟨9,9,9,9⟩ : S35) )) (Reps.c4 (show Kd.M k35 _ _ _ (⟨8,8,9,9⟩ : S35) [.int .i64 8,.int .i64 8,.int .i64 9,.int .i64 9] from (k35_mkM _ _ _ (⟨8,8,9,9⟩ : S35) )) (Reps.none _ _))))));intro v155 w23 ho24 hb hg_ hnew_;clear hg_ hnew_;(first|rw [← Ny154.out] at ho24|(simp only [Int.reduceToNat] at ho24;rw [← Ny154.out] at ho24));have n0_:=Ak (Kd.R_lower ho24 (below_size HB.out));have n1_:=Kh HB hb;clear HB;have HO156:=n0_;have HB:=n1_;clear n0_ n1_;clear hb ho24;obtain ⟨Ao25,co25,eo25⟩:=Kd.R_slice HO156.out;subst eo25)|((with_reducible refine gate_callee (f:=33) rfl ?_);refine goesL_ (some 10) rfl rfl Try.func33 (by kernel_rfl) rfl #[.slice Ao25 y154.length co25] rfl (by (try simp only [List.map_toArray,List.map_cons,List.map_nil]);first|done|rfl|(simp only [List.length_drop,List.length_take];rfl)) ?_;(with_reducible refine (key_Part.calls k _ _ y154 t157 t158 t159 _ ?side1 ?side2 A1.out).mono ?_);(case side1 => repeat (first|exact (Kd.R_reads' HO156.out).2.2|(with_reducible refine Kd.C_alloc ?_ _)|(with_reducible refine Kd.C_drewN ?_ _)|(with_reducible refine Kd.C_drew ?_)));(case side2 => exact (Kd.R_reads' HO156.out).2.1);rintro e w26 ⟨v160,v162,rfl,ho0,ho1,hb⟩;refine ⟨_,rfl,?_⟩;have n0_:=Ak (Kd.R_below (by (with_reducible repeat (first|apply Kd.R_alloc|apply Kd.R_drewN|apply Kd.R_drew));exact HO156.out) hb);have n1_:=Ak (Kd.R_lower ho0 (below_size HB.out));have n2_:=Ak (Kd.R_lower ho1 (below_size HB.out));have n3_:=Kh HB hb;clear HO156;clear HB;have HO156:=n0_;have HO161:=n1_;have HO163:=n2_;have HB:=n3_;clear n0_ n1_ n2_ n3_;(try clear hb);(try clear hb2);(try clear hk);(try clear hi);(try clear ho0);(try clear ho1);obtain ⟨Ao27,co27,eo27⟩:=Kd.R_slice HO161.out;subst eo27;obtain ⟨Ao28,co28,eo28⟩:=Kd.R_slice HO163.out;subst eo28;have p164 : 0 ≤ (1 : Int):=(by omega);have q164 : 1 < (t157.length : Int):=of_decide_eq_true (by first|(with_reducible assumption)|assumption);obtain ⟨ad164,e164,hx164_0⟩:=Kd.at_int (Kd.R_reads' HO161.out).2.2 1 p164 q164;cases e164;(try simp only [show (1 : Int).toNat = 1 from rfl,Nat.reduceMul,Nat.reduceEqDiff,Go.Addr.add,↓reduceIte] at hx164_0);have qi164 : (1 < t157.length) = True:=eq_true (by omega);(try rw [show ((1 : Int)).toNat = 1 from rfl] at hx164_0);replace p164:=eq_true p164;replace q164:=eq_true q164))
      go_ret
      exact ⟨by first|rfl|(simp [errW_none,errW_some] <;> rfl)|(simp [*,errW_none,errW_some] <;> rfl),by repeat (first|(with_reducible first|exact HB.out|apply bA|apply bN|apply bD)|exact HB.out)⟩
    ·rw [if_neg c5] at H
     exact absurd H (by simp)
   ·rw [if_neg c4] at H
    have c4b0 : ((t158.length : Int) == 2) = false:=beq_eq_false_iff_ne.mpr c4
    have c4b1 : ((t158.length : Int) != 2) = true:=bne_iff_ne.mpr c4
    obtain rfl:=Option.some.inj H
    go_enter Try.func32,Try.ntmps32
    go_wp2_with (first|((with_reducible refine gate_dst (N:=9) rfl ?_);(try (refine gate_guard (by rfl) ?_;dsimp only));refine Kd.R_lit k35 _ 35 ?hg (N:=9) ?hd (xs:=([(⟨0,0,0,0⟩ : S35),(⟨1,1,0,0⟩ : S35),(⟨9,9,9,9⟩ : S35),(⟨8,8,9,9⟩ : S35)] : List (S35))) (inner:=[.int .i64 0,.int .i64 0,.int .i64 0,.int .i64 0,.int .i64 1,.int .i64 1,.int .i64 0,.int .i64 0,.int .i64 9,.int .i64 9,.int .i64 9,.int .i64 9,.int .i64 8,.int .i64 8,.int .i64 9,.int .i64 9]) (ok:=fun _ => True) (okp:=fun _ => True) ?hr ?hp (fun _ hk => hk) trivial (Below.refl _ _) (Nat.le_refl _) (by simp) ?_;(case hd => rfl);(case hg => rfl);(case hr => first|(go_simp;done)|(go_simp;rfl));(case hp => exact (Reps.c4 (show Kd.M k35 _ _ _ (⟨0,0,0,0⟩ : S35) [.int .i64 0,.int .i64 0,.int .i64 0,.int .i64 0] from (k35_mkM _ _ _ (⟨0,0,0,0⟩ : S35) )) (Reps.c4 (show Kd.M k35 _ _ _ (⟨1,1,0,0⟩ : S35) [.int .i64 1,.int .i64 1,.int .i64 0,.int .i64 0] from (k35_mkM _ _ _ (⟨1,1,0,0⟩ : S35) )) (Reps.c4 (show Kd.M k35 _ _ _ (⟨9,9,9,9⟩ : S35) [.int .i64 9,.int .i64 9,.int .i64 9,.int .i64 9] from (k35_mkM _ _ _ (⟨9,9,9,9⟩ : S35) )) (Reps.c4 (show Kd.M k35 _ _ _ (⟨8,8,9,9⟩ : S35) [.int .i64 8,.int .i64 8,.int .i64 9,.int .i64 9] from (k35_mkM _ _ _ (⟨8,8,9,9⟩ : S35) )) (Reps.none _ _))))));intro v155 w29 ho30 hb hg_ hnew_;clear hg_ hnew_;(first|rw [← Ny154.out] at ho30|(simp only [Int.reduceToNat] at ho30;rw [← Ny154.out] at ho30));have n0_:=Ak (Kd.R_lower ho30 (below_size HB.out));have n1_:=Kh HB hb;clear HB;have HO156:=n0_;have HB:=n1_;clear n0_ n1_;clear hb ho30;obtain ⟨Ao31,co31,eo31⟩:=Kd.R_slice HO156.out;subst eo31)|((with_reducible refine gate_callee (f:=33) rfl ?_);refine goesL_ (some 10) rfl rfl Try.func33 (by kernel_rfl) rfl #[.slice Ao31 y154.length co31] rfl (by (try simp only [List.map_toArray,List.map_cons,List.map_nil]);first|done|rfl|(simp only [List.length_drop,List.length_take];rfl)) ?_;(with_reducible refine (key_Part.calls k _ _ y154 t157 t158 t159 _ ?side1 ?side2 A1.out).mono ?_);(case side1 => repeat (first|exact (Kd.R_reads' HO156.out).2.2|(with_reducible refine Kd.C_alloc ?_ _)|(with_reducible refine Kd.C_drewN ?_ _)|(with_reducible refine Kd.C_drew ?_)));(case side2 => exact (Kd.R_reads' HO156.out).2.1);rintro e w32 ⟨v160,v162,rfl,ho0,ho1,hb⟩;refine ⟨_,rfl,?_⟩;have n0_:=Ak (Kd.R_below (by (with_reducible repeat (first|apply Kd.R_alloc|apply Kd.R_drewN|apply Kd.R_drew));exact HO156.out) hb);have n1_:=Ak (Kd.R_lower ho0 (below_size HB.out));have n2_:=Ak (Kd.R_lower ho1 (below_size HB.out));have n3_:=Kh HB hb;clear HO156;clear HB;have HO156:=n0_;have HO161:=n1_;have HO163:=n2_;have HB:=n3_;clear n0_ n1_ n2_ n3_;(try clear hb);(try clear hb2);(try clear hk);(try clear hi);(try clear ho0);(try clear ho1);obtain ⟨Ao33,co33,eo33⟩:=Kd.R_slice HO161.out;subst eo33;obtain ⟨Ao34,co34,eo34⟩:=Kd.R_slice HO163.out;subst eo34))
    go_ret
    exact ⟨by first|rfl|(simp [errW_none,errW_some] <;> rfl)|(simp [*,errW_none,errW_some] <;> rfl),by repeat (first|(with_reducible first|exact HB.out|apply bA|apply bN|apply bD)|exact HB.out)⟩
  ·rw [if_neg c3] at H
   have c3b0 : ((t157.length : Int) == 2) = false:=beq_eq_false_iff_ne.mpr c3
   have c3b1 : ((t157.length : Int) != 2) = true:=bne_iff_ne.mpr c3
   obtain rfl:=Option.some.inj H
   go_enter Try.func32,Try.ntmps32
   go_wp2_with (first|((with_reducible refine gate_dst (N:=9) rfl ?_);(try (refine gate_guard (by rfl) ?_;dsimp only));refine Kd.R_lit k35 _ 35 ?hg (N:=9) ?hd (xs:=([(⟨0,0,0,0⟩ : S35),(⟨1,1,0,0⟩ : S35),(⟨9,9,9,9⟩ : S35),(⟨8,8,9,9⟩ : S35)] : List (S35))) (inner:=[.int .i64 0,.int .i64 0,.int .i64 0,.int .i64 0,.int .i64 1,.int .i64 1,.int .i64 0,.int .i64 0,.int .i64 9,.int .i64 9,.int .i64 9,.int .i64 9,.int .i64 8,.int .i64 8,.int .i64 9,.int .i64 9]) (ok:=fun _ => True) (okp:=fun _ => True) ?hr ?hp (fun _ hk => hk) trivial (Below.refl _ _) (Nat.le_refl _) (by simp) ?_;(case hd => rfl);(case hg => rfl);(case hr => first|(go_simp;done)|(go_simp;rfl));(case hp => exact (Reps.c4 (show Kd.M k35 _ _ _ (⟨0,0,0,0⟩ : S35) [.int .i64 0,.int .i64 0,.int .i64 0,.int .i64 0] from (k35_mkM _ _ _ (⟨0,0,0,0⟩ : S35) )) (Reps.c4 (show Kd.M k35 _ _ _ (⟨1,1,0,0⟩ : S35) [.int .i64 1,.int .i64 1,.int .i64 0,.int .i64 0] from (k35_mkM _ _ _ (⟨1,1,0,0⟩ : S35) )) (Reps.c4 (show Kd.M k35 _ _ _ (⟨9,9,9,9⟩ : S35) [.int .i64 9,.int .i64 9,.int .i64 9,.int .i64 9] from (k35_mkM _ _ _ (⟨9,9,9,9⟩ : S35) )) (Reps.c4 (show Kd.M k35 _ _ _ (⟨8,8,9,9⟩ : S35) [.int .i64 8,.int .i64 8,.int .i64 9,.int .i64 9] from (k35_mkM _ _ _ (⟨8,8,9,9⟩ : S35) )) (Reps.none _ _))))));intro v155 w35 ho36 hb hg_ hnew_;clear hg_ hnew_;(first|rw [← Ny154.out] at ho36|(simp only [Int.reduceToNat] at ho36;rw [← Ny154.out] at ho36));have n0_:=Ak (Kd.R_lower ho36 (below_size HB.out));have n1_:=Kh HB hb;clear HB;have HO156:=n0_;have HB:=n1_;clear n0_ n1_;clear hb ho36;obtain ⟨Ao37,co37,eo37⟩:=Kd.R_slice HO156.out;subst eo37)|((with_reducible refine gate_callee (f:=33) rfl ?_);refine goesL_ (some 10) rfl rfl Try.func33 (by kernel_rfl) rfl #[.slice Ao37 y154.length co37] rfl (by (try simp only [List.map_toArray,List.map_cons,List.map_nil]);first|done|rfl|(simp only [List.length_drop,List.length_take];rfl)) ?_;(with_reducible refine (key_Part.calls k _ _ y154 t157 t158 t159 _ ?side1 ?side2 A1.out).mono ?_);(case side1 => repeat (first|exact (Kd.R_reads' HO156.out).2.2|(with_reducible refine Kd.C_alloc ?_ _)|(with_reducible refine Kd.C_drewN ?_ _)|(with_reducible refine Kd.C_drew ?_)));(case side2 => exact (Kd.R_reads' HO156.out).2.1);rintro e w38 ⟨v160,v162,rfl,ho0,ho1,hb⟩;refine ⟨_,rfl,?_⟩;have n0_:=Ak (Kd.R_below (by (with_reducible repeat (first|apply Kd.R_alloc|apply Kd.R_drewN|apply Kd.R_drew));exact HO156.out) hb);have n1_:=Ak (Kd.R_lower ho0 (below_size HB.out));have n2_:=Ak (Kd.R_lower ho1 (below_size HB.out));have n3_:=Kh HB hb;clear HO156;clear HB;have HO156:=n0_;have HO161:=n1_;have HO163:=n2_;have HB:=n3_;clear n0_ n1_ n2_ n3_;(try clear hb);(try clear hb2);(try clear hk);(try clear hi);(try clear ho0);(try clear ho1);obtain ⟨Ao39,co39,eo39⟩:=Kd.R_slice HO161.out;subst eo39))
   go_ret
   exact ⟨by first|rfl|(simp [errW_none,errW_some] <;> rfl)|(simp [*,errW_none,errW_some] <;> rfl),by repeat (first|(with_reducible first|exact HB.out|apply bA|apply bN|apply bD)|exact HB.out)⟩
 ·rw [if_neg c2] at H
  have c2b0 : (t159 == 0) = false:=beq_eq_false_iff_ne.mpr c2
  have c2b1 : (t159 != 0) = true:=bne_iff_ne.mpr c2
  obtain rfl:=Option.some.inj H
  go_enter Try.func32,Try.ntmps32
  go_wp2_with (first|((with_reducible refine gate_dst (N:=9) rfl ?_);(try (refine gate_guard (by rfl) ?_;dsimp only));refine Kd.R_lit k35 _ 35 ?hg (N:=9) ?hd (xs:=([(⟨0,0,0,0⟩ : S35),(⟨1,1,0,0⟩ : S35),(⟨9,9,9,9⟩ : S35),(⟨8,8,9,9⟩ : S35)] : List (S35))) (inner:=[.int .i64 0,.int .i64 0,.int .i64 0,.int .i64 0,.int .i64 1,.int .i64 1,.int .i64 0,.int .i64 0,.int .i64 9,.int .i64 9,.int .i64 9,.int .i64 9,.int .i64 8,.int .i64 8,.int .i64 9,.int .i64 9]) (ok:=fun _ => True) (okp:=fun _ => True) ?hr ?hp (fun _ hk => hk) trivial (Below.refl _ _) (Nat.le_refl _) (by simp) ?_;(case hd => rfl);(case hg => rfl);(case hr => first|(go_simp;done)|(go_simp;rfl));(case hp => exact (Reps.c4 (show Kd.M k35 _ _ _ (⟨0,0,0,0⟩ : S35) [.int .i64 0,.int .i64 0,.int .i64 0,.int .i64 0] from (k35_mkM _ _ _ (⟨0,0,0,0⟩ : S35) )) (Reps.c4 (show Kd.M k35 _ _ _ (⟨1,1,0,0⟩ : S35) [.int .i64 1,.int .i64 1,.int .i64 0,.int .i64 0] from (k35_mkM _ _ _ (⟨1,1,0,0⟩ : S35) )) (Reps.c4 (show Kd.M k35 _ _ _ (⟨9,9,9,9⟩ : S35) [.int .i64 9,.int .i64 9,.int .i64 9,.int .i64 9] from (k35_mkM _ _ _ (⟨9,9,9,9⟩ : S35) )) (Reps.c4 (show Kd.M k35 _ _ _ (⟨8,8,9,9⟩ : S35) [.int .i64 8,.int .i64 8,.int .i64 9,.int .i64 9] from (k35_mkM _ _ _ (⟨8,8,9,9⟩ : S35) )) (Reps.none _ _))))));intro v155 w40 ho41 hb hg_ hnew_;clear hg_ hnew_;(first|rw [← Ny154.out] at ho41|(simp only [Int.reduceToNat] at ho41;rw [← Ny154.out] at ho41));have n0_:=Ak (Kd.R_lower ho41 (below_size HB.out));have n1_:=Kh HB hb;clear HB;have HO156:=n0_;have HB:=n1_;clear n0_ n1_;clear hb ho41;obtain ⟨Ao42,co42,eo42⟩:=Kd.R_slice HO156.out;subst eo42)|((with_reducible refine gate_callee (f:=33) rfl ?_);refine goesL_ (some 10) rfl rfl Try.func33 (by kernel_rfl) rfl #[.slice Ao42 y154.length co42] rfl (by (try simp only [List.map_toArray,List.map_cons,List.map_nil]);first|done|rfl|(simp only [List.length_drop,List.length_take];rfl)) ?_;(with_reducible refine (key_Part.calls k _ _ y154 t157 t158 t159 _ ?side1 ?side2 A1.out).mono ?_);(case side1 => repeat (first|exact (Kd.R_reads' HO156.out).2.2|(with_reducible refine Kd.C_alloc ?_ _)|(with_reducible refine Kd.C_drewN ?_ _)|(with_reducible refine Kd.C_drew ?_)));(case side2 => exact (Kd.R_reads' HO156.out).2.1);rintro e w43 ⟨v160,v162,rfl,ho0,ho1,hb⟩;refine ⟨_,rfl,?_⟩;have n0_:=Ak (Kd.R_below (by (with_reducible repeat (first|apply Kd.R_alloc|apply Kd.R_drewN|apply Kd.R_drew));exact HO156.out) hb);have n1_:=Ak (Kd.R_lower ho0 (below_size HB.out));have n2_:=Ak (Kd.R_lower ho1 (below_size HB.out));have n3_:=Kh HB hb;clear HO156;clear HB;have HO156:=n0_;have HO161:=n1_;have HO163:=n2_;have HB:=n3_;clear n0_ n1_ n2_ n3_;(try clear hb);(try clear hb2);(try clear hk);(try clear hi);(try clear ho0);(try clear ho1)))
  go_ret
  exact ⟨by first|rfl|(simp [errW_none,errW_some] <;> rfl)|(simp [*,errW_none,errW_some] <;> rfl),by repeat (first|(with_reducible first|exact HB.out|apply bA|apply bN|apply bD)|exact HB.out)⟩
end Go.Proofs.Ythlhmijgbjcloaa.A
end
section
namespace Go.Proofs.Ythlhmijgbjcloaa.A
open Go.RowKit Go.Proofs.YthlhmijgbjcloaaW.PrintWords Go.Proofs.YthlhmijgbjcloaaW.PrintLast Go.Proofs.YthlhmijgbjcloaaW.PrintMore
attribute [local go_sem] max2_int min2_int max_two min_two max_three min_three max_four min_four   -- for this text's walks alone
attribute [local go_sem high] eqA35
def key_Covers.f (a0_0 : Int) (a0_1 : Int) (a0_2 : Int) (a0_3 : Int) (a1_0 : Int) (a1_1 : Int) (a1_2 : Int) (a1_3 : Int) : Option (Bool) := (key_box.f a0_0 a0_1 a0_2 a0_3).bind fun t189 => (if t189 = true then ((key_box.f a1_0 a1_1 a1_2 a1_3).bind fun t190 => (if t190 = true then ((key_Union.f a0_0 a0_1 a0_2 a0_3 a1_0 a1_1 a1_2 a1_3).bind fun bt191 => (some (bt191.1 == a0_0 && (bt191.2.1 == a0_1 && (bt191.2.2.1 == a0_2 && (bt191.2.2.2 == a0_3)))))) else (some false))) else (some false))
def key_Covers.T1 : Bool × List (List Nat × List Nat) := (true, [([], []), ([0], [0]), ([1, 1], [1]), ([2], [2]), ([3, 2, 2], [2, 3]), ([2, 4], [2, 4]), ([5, 4], [5]), ([6], [6]), ([6], [6]), ([7, 8, 6, 6], [6, 7, 8]), ([6], [6]), ([9, 10, 6], [6, 9, 10]), ([6, 11], [6, 11]), ([12, 9, 0, 1, 2, 3, 4, 5, 6, 7, 8, 9, 10, 11, 12], [12])])
def key_Covers.B1 : List Nat := [0, 1, 3, 7, 15, 31, 63, 127, 127, 511, 127, 2047, 4095, 8191]
theorem key_Covers.tab1 : rtab .any (opsOf Try.f35 1) = key_Covers.T1 := by kernel_rfl
theorem key_Covers.bits1 : waitsOk key_Covers.T1.2 key_Covers.B1 = true := by kernel_rfl
set_option maxHeartbeats 8000000 in
set_option maxRecDepth 100000 in
theorem key_Covers.calls (a0_0 : Int) (a0_1 : Int) (a0_2 : Int) (a0_3 : Int) (a1_0 : Int) (a1_1 : Int) (a1_2 : Int) (a1_3 : Int) (r : Bool) (w : World) (h : key_Covers.f a0_0 a0_1 a0_2 a0_3 a1_0 a1_1 a1_2 a1_3 = some r) :
  Calls Try.prog 35 #[.agg #[.int .i64 a0_0,.int .i64 a0_1,.int .i64 a0_2,.int .i64 a0_3],.agg #[.int .i64 a1_0,.int .i64 a1_1,.int .i64 a1_2,.int .i64 a1_3]] w fun e w' => e = .returned (.bool r)∧Below w.heap.size w w':=by
 have hu35:=Try.underlying35
 have HB:=Ak (Below.refl w.heap.size w)
 have H : ((key_box.f a0_0 a0_1 a0_2 a0_3).bind fun t189 => (if t189 = true then ((key_box.f a1_0 a1_1 a1_2 a1_3).bind fun t190 => (if t190 = true then ((key_Union.f a0_0 a0_1 a0_2 a0_3 a1_0 a1_1 a1_2 a1_3).bind fun bt191 => (some (bt191.1 == a0_0 && (bt191.2.1 == a0_1 && (bt191.2.2.1 == a0_2 && (bt191.2.2.2 == a0_3)))))) else (some false))) else (some false))) = some r:=h
 clear h
 replace H:=Option.bind_eq_some_iff.mp H
 obtain ⟨t189,A30,H⟩:=H
 replace H : (if t189 = true then ((key_box.f a1_0 a1_1 a1_2 a1_3).bind fun t190 => (if t190 = true then ((key_Union.f a0_0 a0_1 a0_2 a0_3 a1_0 a1_1 a1_2 a1_3).bind fun bt191 => (some (bt191.1 == a0_0 && (bt191.2.1 == a0_1 && (bt191.2.2.1 == a0_2 && (bt191.2.2.2 == a0_3)))))) else (some false))) else (some false)) = some r:=H
 have A3:=Ak A30
 clear A30
 by_cases c4 : t189 = true
 ·subst c4
  have H1 : ((key_box.f a1_0 a1_1 a1_2 a1_3).bind fun t190 => (if t190 = true then ((key_Union.f a0_0 a0_1 a0_2 a0_3 a1_0 a1_1 a1_2 a1_3).bind fun bt191 => (some (bt191.1 == a0_0 && (bt191.2.1 == a0_1 && (bt191.2.2.1 == a0_2 && (bt191.2.2.2 == a0_3)))))) else (some false))) = some r:=by rw [if_pos rfl] at H;exact H
  clear H
  have H:=H1
  clear H1
  replace H:=Option.bind_eq_some_iff.mp H
  obtain ⟨t190,A50,H⟩:=H
  replace H : (if t190 = true then ((key_Union.f a0_0 a0_1 a0_2 a0_3 a1_0 a1_1 a1_2 a1_3).bind fun bt191 => (some (bt191.1 == a0_0 && (bt191.2.1 == a0_1 && (bt191.2.2.1 == a0_2 && (bt191.2.2.2 == a0_3)))))) else (some false)) = some r:=H
  have A5:=Ak A50
  clear A50
  by_cases c6 : t190 = true
  ·subst c6
   have H1 : ((key_Union.f a0_0 a0_1 a0_2 a0_3 a1_0 a1_1 a1_2 a1_3).bind fun bt191 => (some (bt191.1 == a0_0 && (bt191.2.1 == a0_1 && (bt191.2.2.1 == a0_2 && (bt191.2.2.2 == a0_3)))))) = some r:=by rw [if_pos rfl] at H;exact H
   clear H
   have H:=H1
   clear H1
   replace H:=Option.bind_eq_some_iff.mp H
   obtain ⟨⟨t191,t192,t193,t194⟩,A70,H⟩:=H
   replace H : (some (t191 == a0_0 && (t192 == a0_1 && (t193 == a0_2 && (t194 == a0_3))))) = some r:=H
   have A7:=Ak A70
   clear A70
   obtain rfl:=Option.some.inj H
   go_enter Try.func35,Try.ntmps35
   try go_wp2_with (first|((with_reducible refine gate_dst (N:=2) rfl ?_);refine box_event ?hg (N:=2) ?hd (cs:=#[.int .i64 a0_0,.int .i64 a0_1,.int .i64 a0_2,.int .i64 a0_3]) (t:=35) ?hr ?_;(case hd => rfl);(case hg => rfl);(case hr => first|(go_simp;done)|(go_simp;rfl));intro gb187 hg w8 hbox hb;have n0_:=Kh HB hb;have n1_:=Ak (hbox);have n2_:=Ak ((by rw [hg];exact (below_size HB.out) : w.heap.size ≤ gb187));have n3_:=Ak ((by rw [hg];exact (below_size HB.out) : w.heap.size ≤ gb187));clear HB;have HB:=n0_;have BK187:=n1_;have GW187:=n2_;have GE187:=n3_;clear n0_ n1_ n2_ n3_;clear hb hbox hg)|((with_reducible refine gate_dst (N:=3) rfl ?_);refine box_event ?hg (N:=3) ?hd (cs:=#[.int .i64 a1_0,.int .i64 a1_1,.int .i64 a1_2,.int .i64 a1_3]) (t:=35) ?hr ?_;(case hd => rfl);(case hg => rfl);(case hr => first|(go_simp;done)|(go_simp;rfl));intro gb188 hg w9 hbox hb;have n0_:=Kb BK187 hb;have n1_:=Kh HB hb;have n2_:=Ak (hbox);have n3_:=Ak ((by rw [hg];exact (below_size HB.out) : w.heap.size ≤ gb188));have n4_:=Ak ((by rw [hg];exact (below_size HB.out) : w.heap.size ≤ gb188));have n5_:=Ak ((by rw [hg];exact Nat.ne_of_lt (blk_lt (g:=gb187) (o:=.cells #[.int .i64 a0_0,.int .i64 a0_1,.int .i64 a0_2,.int .i64 a0_3] 35 (0,0)) BK187.out) : gb187 ≠ gb188));have n6_:=Ak ((by rw [hg];exact Nat.ne_of_gt (blk_lt (g:=gb187) (o:=.cells #[.int .i64 a0_0,.int .i64 a0_1,.int .i64 a0_2,.int .i64 a0_3] 35 (0,0)) BK187.out) : gb188 ≠ gb187));clear BK187;clear HB;have BK187:=n0_;have HB:=n1_;have BK188:=n2_;have GW188:=n3_;have GE188:=n4_;have NB187_188:=n5_;have NB188_187:=n6_;clear n0_ n1_ n2_ n3_ n4_ n5_ n6_;clear hb hbox hg))
   have n0_:=Ak (kD BK187.out)
   have n1_:=Ak (kD BK188.out)
   have n2_:=Ak (bD HB.out)
   clear BK187 BK188 HB
   have BK187:=n0_;have BK188:=n1_;have HB:=n2_
   clear n0_ n1_ n2_
   refine start_ (n:=14) (S:=fun w' => w'.cell? ⟨gb187,0,none⟩ = some (.int .i64 a0_0)∧w'.cell? ⟨gb187,1,none⟩ = some (.int .i64 a0_1)∧w'.cell? ⟨gb187,2,none⟩ = some (.int .i64 a0_2)∧w'.cell? ⟨gb187,3,none⟩ = some (.int .i64 a0_3)∧w'.cell? ⟨gb188,0,none⟩ = some (.int .i64 a1_0)∧w'.cell? ⟨gb188,1,none⟩ = some (.int .i64 a1_1)∧w'.cell? ⟨gb188,2,none⟩ = some (.int .i64 a1_2)∧w'.cell? ⟨gb188,3,none⟩ = some (.int .i64 a1_3)) (ds:=[]) #[ff,ff,ff,ff,ff,ff,ff,ff,ff,ff,ff,ff,ff,ff] (by kernel_rfl) rfl rfl ⟨(kC BK187.out 0).trans rfl,(kC BK187.out 1).trans rfl,(kC BK187.out 2).trans rfl,(kC BK187.out 3).trans rfl,(kC BK188.out 0).trans rfl,(kC BK188.out 1).trans rfl,(kC BK188.out 2).trans rfl,(kC BK188.out 3).trans rfl⟩ (fun hHeld => ?_);refine with_tabW key_Covers.tab1 key_Covers.bits1 (fun HT_ HW_ => ?_)
   generalize w9.drew = w10 at BK187 BK188 HB hHeld ⊢
   refine take_ (i:=0) (N:=some 5) (v:=?_) (a':=?_) #[tt,ff,ff,ff,ff,ff,ff,ff,ff,ff,ff,ff,ff,ff] rfl rfl (take_ofW HT_.out HW_.out (by kernel_rfl)) (fun _ _ _ h => h) (Or.inl ⟨by rfl,?_⟩) hHeld ?_ ?_
   rotate_left
   ·rintro w' ⟨s0,s1,s2,s3,s4,s5,s6,s7⟩
    go_simp
    with_reducible rfl
   rotate_left
   ·simp only [Act.put,sA,sZ,sS,i64_w,i32_w]
    rfl
   refine one_ (i:=1) (N:=some 6) #[tt,tt,ff,ff,ff,ff,ff,ff,ff,ff,ff,ff,ff,ff] rfl rfl (one_of HT_.out (by kernel_rfl)) (by decide) (fun K hK => ?_)
   refine goes_ Try.func57 (by kernel_rfl) rfl #[.agg #[.int .i64 a0_0,.int .i64 a0_1,.int .i64 a0_2,.int .i64 a0_3]] (by rfl) rfl rfl (by (try simp only [List.map_toArray,List.map_cons,List.map_nil]);first|done|rfl|(simp only [List.length_drop,List.length_take];rfl)) ?_
   with_reducible refine (key_box.calls a0_0 a0_1 a0_2 a0_3 true _ A3.out).mono ?_
   rintro e w11 ⟨rfl,hb⟩
   refine ⟨_,rfl,?_⟩
   have n0_:=Kb BK187 hb
   have n1_:=Kb BK188 hb
   have n2_:=Kh HB hb
   clear BK187 BK188 HB
   have BK187:=n0_;have BK188:=n1_;have HB:=n2_
   clear n0_ n1_ n2_
   (try clear hb)
   (try clear hb2)
   (try clear hk)
   (try clear hi)
   refine hK.out _ _ ⟨(kC BK187.out 0).trans rfl,(kC BK187.out 1).trans rfl,(kC BK187.out 2).trans rfl,(kC BK187.out 3).trans rfl,(kC BK188.out 0).trans rfl,(kC BK188.out 1).trans rfl,(kC BK188.out 2).trans rfl,(kC BK188.out 3).trans rfl⟩ (fun hHeld => ?_)
   clear hK K
   refine norm_ (a':=?_) ?_ ?_
   rotate_left
   ·show Act.put _ (some 6) _ = _
    simp only [Act.put,sA,sZ,sS,i64_w,i32_w]
    rfl
   refine pure_ (i:=2) (N:=some 7) (v:=?_) (a':=?_) #[tt,tt,tt,ff,ff,ff,ff,ff,ff,ff,ff,ff,ff,ff] rfl rfl (any_of HT_.out (by kernel_rfl)) (fun _ _ _ h => h) (Or.inl ⟨by rfl,?_⟩) ?_ ?_
   rotate_left
   ·intro w'
    go_simp
    with_reducible rfl
   rotate_left
   ·simp only [Act.put,sA,sZ,sS,i64_w,i32_w]
    rfl
   refine take_ (i:=3) (N:=some 8) (v:=?_) (a':=?_) #[tt,tt,tt,tt,ff,ff,ff,ff,ff,ff,ff,ff,ff,ff] rfl rfl (take_ofW HT_.out HW_.out (by kernel_rfl)) (fun _ _ _ h => h) (Or.inl ⟨by rfl,?_⟩) hHeld ?_ ?_
   rotate_left
   ·rintro w' ⟨s0,s1,s2,s3,s4,s5,s6,s7⟩
    go_simp
    with_reducible rfl
   rotate_left
   ·simp only [Act.put,sA,sZ,sS,i64_w,i32_w]
    rfl
   refine one_ (i:=4) (N:=some 9) #[tt,tt,tt,tt,tt,ff,ff,ff,ff,ff,ff,ff,ff,ff] rfl rfl (one_of HT_.out (by kernel_rfl)) (by decide) (fun K hK => ?_)
   refine goes_ Try.func57 (by kernel_rfl) rfl #[.agg #[.int .i64 a1_0,.int .i64 a1_1,.int .i64 a1_2,.int .i64 a1_3]] (by rfl) rfl rfl (by (try simp only [List.map_toArray,List.map_cons,List.map_nil]);first|done|rfl|(simp only [List.length_drop,List.length_take];rfl)) ?_
   with_reducible refine (key_box.calls a1_0 a1_1 a1_2 a1_3 true _ A5.out).mono ?_
   rintro e w12 ⟨rfl,hb⟩
   refine ⟨_,rfl,?_⟩
   have n0_:=Kb BK187 hb
   have n1_:=Kb BK188 hb
   have n2_:=Kh HB hb
   clear BK187 BK188 HB
   have BK187:=n0_;have BK188:=n1_;have HB:=n2_
   clear n0_ n1_ n2_
   (try clear hb)
   (try clear hb2)
   (try clear hk)
   (try clear hi)
   refine hK.out _ _ ⟨(kC BK187.out 0).trans rfl,(kC BK187.out 1).trans rfl,(kC BK187.out 2).trans rfl,(kC BK187.out 3).trans rfl,(kC BK188.out 0).trans rfl,(kC BK188.out 1).trans rfl,(kC BK188.out 2).trans rfl,(kC BK188.out 3).trans rfl⟩ (fun hHeld => ?_)
   clear hK K
   refine norm_ (a':=?_) ?_ ?_
   rotate_left
   ·show Act.put _ (some 9) _ = _
    simp only [Act.put,sA,sZ,sS,i64_w,i32_w]
    rfl
   refine pure_ (i:=5) (N:=some 10) (v:=?_) (a':=?_) #[tt,tt,tt,tt,tt,tt,ff,ff,ff,ff,ff,ff,ff,ff] rfl rfl (any_of HT_.out (by kernel_rfl)) (fun _ _ _ h => h) (Or.inl ⟨by rfl,?_⟩) ?_ ?_
   rotate_left
   ·intro w'
    go_simp
    with_reducible rfl
   rotate_left
   ·simp only [Act.put,sA,sZ,sS,i64_w,i32_w]
    rfl
   refine pure_ (i:=6) (N:=some 11) (v:=?_) (a':=?_) #[tt,tt,tt,tt,tt,tt,tt,ff,ff,ff,ff,ff,ff,ff] rfl rfl (any_of HT_.out (by kernel_rfl)) (fun _ _ _ h => h) (Or.inl ⟨by rfl,?_⟩) ?_ ?_
   rotate_left
   ·intro w'
    go_simp
    with_reducible rfl
   rotate_left
   ·simp only [Act.put,sA,sZ,sS,i64_w,i32_w]
    rfl
   refine take_ (i:=7) (N:=some 12) (v:=?_) (a':=?_) #[tt,tt,tt,tt,tt,tt,tt,tt,ff,ff,ff,ff,ff,ff] rfl rfl (take_ofW HT_.out HW_.out (by kernel_rfl)) (fun _ _ _ h => h) (Or.inl ⟨by rfl,?_⟩) hHeld ?_ ?_
   rotate_left
   ·rintro w' ⟨s0,s1,s2,s3,s4,s5,s6,s7⟩
    go_simp
    with_reducible rfl
   rotate_left
   ·simp only [Act.put,sA,sZ,sS,i64_w,i32_w]
    rfl
   refine take_ (i:=8) (N:=some 13) (v:=?_) (a':=?_) #[tt,tt,tt,tt,tt,tt,tt,tt,tt,ff,ff,ff,ff,ff] rfl rfl (take_ofW HT_.out HW_.out (by kernel_rfl)) (fun _ _ _ h => h) (Or.inl ⟨by rfl,?_⟩) hHeld ?_ ?_
   rotate_left
   ·rintro w' ⟨s0,s1,s2,s3,s4,s5,s6,s7⟩
    go_simp
    with_reducible rfl
   rotate_left
   ·simp only [Act.put,sA,sZ,sS,i64_w,i32_w]
    rfl
   refine take_ (i:=10) (N:=some 15) (v:=?_) (a':=?_) #[tt,tt,tt,tt,tt,tt,tt,tt,tt,ff,tt,ff,ff,ff] rfl rfl (take_ofW HT_.out HW_.out (by kernel_rfl)) (fun _ _ _ h => h) (Or.inl ⟨by rfl,?_⟩) hHeld ?_ ?_
   rotate_left
   ·rintro w' ⟨s0,s1,s2,s3,s4,s5,s6,s7⟩
    go_simp
    with_reducible rfl
   rotate_left
   ·simp only [Act.put,sA,sZ,sS,i64_w,i32_w]
    rfl
   refine one_ (i:=9) (N:=some 14) #[tt,tt,tt,tt,tt,tt,tt,tt,tt,tt,tt,ff,ff,ff] rfl rfl (one_of HT_.out (by kernel_rfl)) (by decide) (fun K hK => ?_)
   refine goes_ Try.func40 (by kernel_rfl) rfl #[.agg #[.int .i64 a0_0,.int .i64 a0_1,.int .i64 a0_2,.int .i64 a0_3],.agg #[.int .i64 a1_0,.int .i64 a1_1,.int .i64 a1_2,.int .i64 a1_3]] (by rfl) rfl rfl (by (try simp only [List.map_toArray,List.map_cons,List.map_nil]);first|done|rfl|(simp only [List.length_drop,List.length_take];rfl)) ?_
   with_reducible refine (key_Union.calls a0_0 a0_1 a0_2 a0_3 a1_0 a1_1 a1_2 a1_3 t191 t192 t193 t194 _ A7.out).mono ?_
   rintro e w13 ⟨rfl,hb⟩
   refine ⟨_,rfl,?_⟩
   have n0_:=Kb BK187 hb
   have n1_:=Kb BK188 hb
   have n2_:=Kh HB hb
   clear BK187 BK188 HB
   have BK187:=n0_;have BK188:=n1_;have HB:=n2_
   clear n0_ n1_ n2_
   (try clear hb)
   (try clear hb2)
   (try clear hk)
   (try clear hi)
   refine hK.out _ _ ⟨(kC BK187.out 0).trans rfl,(kC BK187.out 1).trans rfl,(kC BK187.out 2).trans rfl,(kC BK187.out 3).trans rfl,(kC BK188.out 0).trans rfl,(kC BK188.out 1).trans rfl,(kC BK188.out 2).trans rfl,(kC BK188.out 3).trans rfl⟩ (fun hHeld => ?_)
   clear hK K
   refine norm_ (a':=?_) ?_ ?_
   rotate_left
   ·show Act.put _ (some 14) _ = _
    simp only [Act.put,sA,sZ,sS,i64_w,i32_w]
    rfl
   refine pure_ (i:=11) (N:=some 16) (v:=?_) (a':=?_) #[tt,tt,tt,tt,tt,tt,tt,tt,tt,tt,tt,tt,ff,ff] rfl rfl (any_of HT_.out (by kernel_rfl)) (fun _ _ _ h => h) (Or.inl ⟨by rfl,?_⟩) ?_ ?_
   rotate_left
   ·intro w'
    go_simp
    with_reducible rfl
   rotate_left
   ·simp only [Act.put,sA,sZ,sS,i64_w,i32_w]
    rfl
   refine pure_ (i:=12) (N:=some 17) (v:=?_) (a':=?_) #[tt,tt,tt,tt,tt,tt,tt,tt,tt,tt,tt,tt,tt,ff] rfl rfl (any_of HT_.out (by kernel_rfl)) (fun _ _ _ h => h) (Or.inl ⟨by rfl,?_⟩) ?_ ?_
   rotate_left
   ·intro w'
    go_simp
    with_reducible rfl
   rotate_left
   ·simp only [Act.put,sA,sZ,sS,i64_w,i32_w]
    rfl
   refine pure_ (i:=13) (N:=some 4) (v:=?_) (a':=?_) #[tt,tt,tt,tt,tt,tt,tt,tt,tt,tt,tt,tt,tt,tt] rfl rfl (any_of HT_.out (by kernel_rfl)) (fun _ _ _ h => h) (Or.inl ⟨by rfl,?_⟩) ?_ ?_
   rotate_left
   ·intro w'
    go_simp
    with_reducible rfl
   rotate_left
   ·simp only [Act.put,sA,sZ,sS,i64_w,i32_w]
    rfl
   refine done_ (done_of HT_.out (by kernel_rfl)) ?_
   try go_wp2
   go_ret
   exact ⟨by first|rfl|(simp [errW_none,errW_some] <;> rfl)|(simp [*,errW_none,errW_some] <;> rfl),by repeat (first|(with_reducible first|exact HB.out|apply bA|apply bN|apply bD|refine bS ?_ GE187.out|refine bS ?_ GE188.out)|exact HB.out)⟩
  ·replace c6:=Bool.eq_false_iff.mpr c6
   subst c6
   have H1 : (some false) = some r:=by rw [if_neg (show ¬ (false = true) by decide)] at H;exact H
   clear H
   have H:=H1
   clear H1
   obtain rfl:=Option.some.inj H
   go_enter Try.func35,Try.ntmps35
   try go_wp2_with (first|((with_reducible refine gate_dst (N:=2) rfl ?_);refine box_event ?hg (N:=2) ?hd (cs:=#[.int .i64 a0_0,.int .i64 a0_1,.int .i64 a0_2,.int .i64 a0_3]) (t:=35) ?hr ?_;(case hd => rfl);(case hg => rfl);(case hr => first|(go_simp;done)|(go_simp;rfl));intro gb187 hg w14 hbox hb;have n0_:=Kh HB hb;have n1_:=Ak (hbox);have n2_:=Ak ((by rw [hg];exact (below_size HB.out) : w.heap.size ≤ gb187));have n3_:=Ak ((by rw [hg];exact (below_size HB.out) : w.heap.size ≤ gb187));clear HB;have HB:=n0_;have BK187:=n1_;have GW187:=n2_;have GE187:=n3_;clear n0_ n1_ n2_ n3_;clear hb hbox hg)|((with_reducible refine gate_dst (N:=3) rfl ?_);refine box_event ?hg (N:=3) ?hd (cs:=#[.int .i64 a1_0,.int .i64 a1_1,.int .i64 a1_2,.int .i64 a1_3]) (t:=35) ?hr ?_;(case hd => rfl);(case hg => rfl);(case hr => first|(go_simp;done)|(go_simp;rfl));intro gb188 hg w15 hbox hb;have n0_:=Kb BK187 hb;have n1_:=Kh HB hb;have n2_:=Ak (hbox);have n3_:=Ak ((by rw [hg];exact (below_size HB.out) : w.heap.size ≤ gb188));have n4_:=Ak ((by rw [hg];exact (below_size HB.out) : w.heap.size ≤ gb188));have n5_:=Ak ((by rw [hg];exact Nat.ne_of_lt (blk_lt (g:=gb187) (o:=.cells #[.int .i64 a0_0,.int .i64 a0_1,.int .i64 a0_2,.int .i64 a0_3] 35 (0,0)) BK187.out) : gb187 ≠ gb188));have n6_:=Ak ((by rw [hg];exact Nat.ne_of_gt (blk_lt (g:=gb187) (o:=.cells #[.int .i64 a0_0,.int .i64 a0_1,.int .i64 a0_2,.int .i64 a0_3] 35 (0,0)) BK187.out) : gb188 ≠ gb187));clear BK187;clear HB;have BK187:=n0_;have HB:=n1_;have BK188:=n2_;have GW188:=n3_;have GE188:=n4_;have NB187_188:=n5_;have NB188_187:=n6_;clear n0_ n1_ n2_ n3_ n4_ n5_ n6_;clear hb hbox hg))
   have n0_:=Ak (kD BK187.out)
   have n1_:=Ak (kD BK188.out)
   have n2_:=Ak (bD HB.out)
   clear BK187 BK188 HB
   have BK187:=n0_;have BK188:=n1_;have HB:=n2_
   clear n0_ n1_ n2_
   refine start_ (n:=14) (S:=fun w' => w'.cell? ⟨gb187,0,none⟩ = some (.int .i64 a0_0)∧w'.cell? ⟨gb187,1,none⟩ = some (.int .i64 a0_1)∧w'.cell? ⟨gb187,2,none⟩ = some (.int .i64 a0_2)∧w'.cell? ⟨gb187,3,none⟩ = some (.int .i64 a0_3)∧w'.cell? ⟨gb188,0,none⟩ = some (.int .i64 a1_0)∧w'.cell? ⟨gb188,1,none⟩ = some (.int .i64 a1_1)∧w'.cell? ⟨gb188,2,none⟩ = some (.int .i64 a1_2)∧w'.cell? ⟨gb188,3,none⟩ = some (.int .i64 a1_3)) (ds:=[]) #[ff,ff,ff,ff,ff,ff,ff,ff,ff,ff,ff,ff,ff,ff] (by kernel_rfl) rfl rfl ⟨(kC BK187.out 0).trans rfl,(kC BK187.out 1).trans rfl,(kC BK187.out 2).trans rfl,(kC BK187.out 3).trans rfl,(kC BK188.out 0).trans rfl,(kC BK188.out 1).trans rfl,(kC BK188.out 2).trans rfl,(kC BK188.out 3).trans rfl⟩ (fun hHeld => ?_);refine with_tabW key_Covers.tab1 key_Covers.bits1 (fun HT_ HW_ => ?_)
   generalize w15.drew = w16 at BK187 BK188 HB hHeld ⊢
   refine take_ (i:=0) (N:=some 5) (v:=?_) (a':=?_) #[tt,ff,ff,ff,ff,ff,ff,ff,ff,ff,ff,ff,ff,ff] rfl rfl (take_ofW HT_.out HW_.out (by kernel_rfl)) (fun _ _ _ h => h) (Or.inl ⟨by rfl,?_⟩) hHeld ?_ ?_
   rotate_left
   ·rintro w' ⟨s0,s1,s2,s3,s4,s5,s6,s7⟩
    go_simp
    with_reducible rfl
   rotate_left
   ·simp only [Act.put,sA,sZ,sS,i64_w,i32_w]
    rfl
   refine one_ (i:=1) (N:=some 6) #[tt,tt,ff,ff,ff,ff,ff,ff,ff,ff,ff,ff,ff,ff] rfl rfl (one_of HT_.out (by kernel_rfl)) (by decide) (fun K hK => ?_)
   refine goes_ Try.func57 (by kernel_rfl) rfl #[.agg #[.int .i64 a0_0,.int .i64 a0_1,.int .i64 a0_2,.int .i64 a0_3]] (by rfl) rfl rfl (by (try simp only [List.map_toArray,List.map_cons,List.map_nil]);first|done|rfl|(simp only [List.length_drop,List.length_take];rfl)) ?_
   with_reducible refine (key_box.calls a0_0 a0_1 a0_2 a0_3 true _ A3.out).mono ?_
   rintro e w17 ⟨rfl,hb⟩
   refine ⟨_,rfl,?_⟩
   have n0_:=Kb BK187 hb
   have n1_:=Kb BK188 hb
   have n2_:=Kh HB hb
   clear BK187 BK188 HB
   have BK187:=n0_;have BK188:=n1_;have HB:=n2_
   clear n0_ n1_ n2_
   (try clear hb)
   (try clear hb2)
   (try clear hk)
   (try clear hi)
   refine hK.out _ _ ⟨(kC BK187.out 0).trans rfl,(kC BK187.out 1).trans rfl,(kC BK187.out 2).trans rfl,(kC BK187.out 3).trans rfl,(kC BK188.out 0).trans rfl,(kC BK188.out 1).trans rfl,(kC BK188.out 2).trans rfl,(kC BK188.out 3).trans rfl⟩ (fun hHeld => ?_)
   clear hK K
   refine norm_ (a':=?_) ?_ ?_
   rotate_left
   ·show Act.put _ (some 6) _ = _
    simp only [Act.put,sA,sZ,sS,i64_w,i32_w]
    rfl
   refine pure_ (i:=2) (N:=some 7) (v:=?_) (a':=?_) #[tt,tt,tt,ff,ff,ff,ff,ff,ff,ff,ff,ff,ff,ff] rfl rfl (any_of HT_.out (by kernel_rfl)) (fun _ _ _ h => h) (Or.inl ⟨by rfl,?_⟩) ?_ ?_
   rotate_left
   ·intro w'
    go_simp
    with_reducible rfl
   rotate_left
   ·simp only [Act.put,sA,sZ,sS,i64_w,i32_w]
    rfl
   refine take_ (i:=3) (N:=some 8) (v:=?_) (a':=?_) #[tt,tt,tt,tt,ff,ff,ff,ff,ff,ff,ff,ff,ff,ff] rfl rfl (take_ofW HT_.out HW_.out (by kernel_rfl)) (fun _ _ _ h => h) (Or.inl ⟨by rfl,?_⟩) hHeld ?_ ?_
   rotate_left
   ·rintro w' ⟨s0,s1,s2,s3,s4,s5,s6,s7⟩
    go_simp
    with_reducible rfl
   rotate_left
   ·simp only [Act.put,sA,sZ,sS,i64_w,i32_w]
    rfl
   refine one_ (i:=4) (N:=some 9) #[tt,tt,tt,tt,tt,ff,ff,ff,ff,ff,ff,ff,ff,ff] rfl rfl (one_of HT_.out (by kernel_rfl)) (by decide) (fun K hK => ?_)
   refine goes_ Try.func57 (by kernel_rfl) rfl #[.agg #[.int .i64 a1_0,.int .i64 a1_1,.int .i64 a1_2,.int .i64 a1_3]] (by rfl) rfl rfl (by (try simp only [List.map_toArray,List.map_cons,List.map_nil]);first|done|rfl|(simp only [List.length_drop,List.length_take];rfl)) ?_
   with_reducible refine (key_box.calls a1_0 a1_1 a1_2 a1_3 false _ A5.out).mono ?_
   rintro e w18 ⟨rfl,hb⟩
   refine ⟨_,rfl,?_⟩
   have n0_:=Kb BK187 hb
   have n1_:=Kb BK188 hb
   have n2_:=Kh HB hb
   clear BK187 BK188 HB
   have BK187:=n0_;have BK188:=n1_;have HB:=n2_
   clear n0_ n1_ n2_
   (try clear hb)
   (try clear hb2)
   (try clear hk)
   (try clear hi)
   refine hK.out _ _ ⟨(kC BK187.out 0).trans rfl,(kC BK187.out 1).trans rfl,(kC BK187.out 2).trans rfl,(kC BK187.out 3).trans rfl,(kC BK188.out 0).trans rfl,(kC BK188.out 1).trans rfl,(kC BK188.out 2).trans rfl,(kC BK188.out 3).trans rfl⟩ (fun hHeld => ?_)
   clear hK K
   refine norm_ (a':=?_) ?_ ?_
   rotate_left
   ·show Act.put _ (some 9) _ = _
    simp only [Act.put,sA,sZ,sS,i64_w,i32_w]
    rfl
   refine pure_ (i:=5) (N:=some 10) (v:=?_) (a':=?_) #[tt,tt,tt,tt,tt,tt,ff,ff,ff,ff,ff,ff,ff,ff] rfl rfl (any_of HT_.out (by kernel_rfl)) (fun _ _ _ h => h) (Or.inl ⟨by rfl,?_⟩) ?_ ?_
   rotate_left
   ·intro w'
    go_simp
    with_reducible rfl
   rotate_left
   ·simp only [Act.put,sA,sZ,sS,i64_w,i32_w]
    rfl
   refine pure_ (i:=6) (N:=some 11) (v:=?_) (a':=?_) #[tt,tt,tt,tt,tt,tt,tt,ff,ff,ff,ff,ff,ff,ff] rfl rfl (any_of HT_.out (by kernel_rfl)) (fun _ _ _ h => h) (Or.inl ⟨by rfl,?_⟩) ?_ ?_
   rotate_left
   ·intro w'
    go_simp
    with_reducible rfl
   rotate_left
   ·simp only [Act.put,sA,sZ,sS,i64_w,i32_w]
    rfl
   refine pure_ (i:=7) (N:=some 12) (v:=undef) (a':=?_) #[tt,tt,tt,tt,tt,tt,tt,tt,ff,ff,ff,ff,ff,ff] rfl rfl (any_of HT_.out (by kernel_rfl)) (fun _ _ _ h => h) (Or.inr ⟨by rfl,rfl⟩) ?_ ?_
   rotate_left
   ·simp only [Act.put,sA,sZ,sS,i64_w,i32_w]
    rfl
   refine pure_ (i:=8) (N:=some 13) (v:=undef) (a':=?_) #[tt,tt,tt,tt,tt,tt,tt,tt,tt,ff,ff,ff,ff,ff] rfl rfl (any_of HT_.out (by kernel_rfl)) (fun _ _ _ h => h) (Or.inr ⟨by rfl,rfl⟩) ?_ ?_
   rotate_left
   ·simp only [Act.put,sA,sZ,sS,i64_w,i32_w]
    rfl
   refine pure_ (i:=9) (N:=some 14) (v:=undef) (a':=?_) #[tt,tt,tt,tt,tt,tt,tt,tt,tt,tt,ff,ff,ff,ff] rfl rfl (any_of HT_.out (by kernel_rfl)) (fun _ _ _ h => h) (Or.inr ⟨by rfl,rfl⟩) ?_ ?_
   rotate_left
   ·simp only [Act.put,sA,sZ,sS,i64_w,i32_w]
    rfl
   refine pure_ (i:=10) (N:=some 15) (v:=undef) (a':=?_) #[tt,tt,tt,tt,tt,tt,tt,tt,tt,tt,tt,ff,ff,ff] rfl rfl (any_of HT_.out (by kernel_rfl)) (fun _ _ _ h => h) (Or.inr ⟨by rfl,rfl⟩) ?_ ?_
   rotate_left
   ·simp only [Act.put,sA,sZ,sS,i64_w,i32_w]
    rfl
   refine pure_ (i:=11) (N:=some 16) (v:=undef) (a':=?_) #[tt,tt,tt,tt,tt,tt,tt,tt,tt,tt,tt,tt,ff,ff] rfl rfl (any_of HT_.out (by kernel_rfl)) (fun _ _ _ h => h) (Or.inr ⟨by rfl,rfl⟩) ?_ ?_
   rotate_left
   ·simp only [Act.put,sA,sZ,sS,i64_w,i32_w]
    rfl
   refine pure_ (i:=12) (N:=some 17) (v:=?_) (a':=?_) #[tt,tt,tt,tt,tt,tt,tt,tt,tt,tt,tt,tt,tt,ff] rfl rfl (any_of HT_.out (by kernel_rfl)) (fun _ _ _ h => h) (Or.inl ⟨by rfl,?_⟩) ?_ ?_
   rotate_left
   ·intro w'
    go_simp
    with_reducible rfl
   rotate_left
   ·simp only [Act.put,sA,sZ,sS,i64_w,i32_w]
    rfl
   refine pure_ (i:=13) (N:=some 4) (v:=?_) (a':=?_) #[tt,tt,tt,tt,tt,tt,tt,tt,tt,tt,tt,tt,tt,tt] rfl rfl (any_of HT_.out (by kernel_rfl)) (fun _ _ _ h => h) (Or.inl ⟨by rfl,?_⟩) ?_ ?_
   rotate_left
   ·intro w'
    go_simp
    with_reducible rfl
   rotate_left
   ·simp only [Act.put,sA,sZ,sS,i64_w,i32_w]
    rfl
   refine done_ (done_of HT_.out (by kernel_rfl)) ?_
   try go_wp2
   go_ret
   exact ⟨by first|rfl|(simp [errW_none,errW_some] <;> rfl)|(simp [*,errW_none,errW_some] <;> rfl),by repeat (first|(with_reducible first|exact HB.out|apply bA|apply bN|apply bD|refine bS ?_ GE187.out|refine bS ?_ GE188.out)|exact HB.out)⟩
 ·replace c4:=Bool.eq_false_iff.mpr c4
  subst c4
  have H1 : (some false) = some r:=by rw [if_neg (show ¬ (false = true) by decide)] at H;exact H
  clear H
  have H:=H1
  clear H1
  obtain rfl:=Option.some.inj H
  go_enter Try.func35,Try.ntmps35
  try go_wp2_with (first|((with_reducible refine gate_dst (N:=2) rfl ?_);refine box_event ?hg (N:=2) ?hd (cs:=#[.int .i64 a0_0,.int .i64 a0_1,.int .i64 a0_2,.int .i64 a0_3]) (t:=35) ?hr ?_;(case hd => rfl);(case hg => rfl);(case hr => first|(go_simp;done)|(go_simp;rfl));intro gb187 hg w19 hbox hb;have n0_:=Kh HB hb;have n1_:=Ak (hbox);have n2_:=Ak ((by rw [hg];exact (below_size HB.out) : w.heap.size ≤ gb187));have n3_:=Ak ((by rw [hg];exact (below_size HB.out) : w.heap.size ≤ gb187));clear HB;have HB:=n0_;have BK187:=n1_;have GW187:=n2_;have GE187:=n3_;clear n0_ n1_ n2_ n3_;clear hb hbox hg)|((with_reducible refine gate_dst (N:=3) rfl ?_);refine box_event ?hg (N:=3) ?hd (cs:=#[.int .i64 a1_0,.int .i64 a1_1,.int .i64 a1_2,.int .i64 a1_3]) (t:=35) ?hr ?_;(case hd => rfl);(case hg => rfl);(case hr => first|(go_simp;done)|(go_simp;rfl));intro gb188 hg w20 hbox hb;have n0_:=Kb BK187 hb;have n1_:=Kh HB hb;have n2_:=Ak (hbox);have n3_:=Ak ((by rw [hg];exact (below_size HB.out) : w.heap.size ≤ gb188));have n4_:=Ak ((by rw [hg];exact (below_size HB.out) : w.heap.size ≤ gb188));have n5_:=Ak ((by rw [hg];exact Nat.ne_of_lt (blk_lt (g:=gb187) (o:=.cells #[.int .i64 a0_0,.int .i64 a0_1,.int .i64 a0_2,.int .i64 a0_3] 35 (0,0)) BK187.out) : gb187 ≠ gb188));have n6_:=Ak ((by rw [hg];exact Nat.ne_of_gt (blk_lt (g:=gb187) (o:=.cells #[.int .i64 a0_0,.int .i64 a0_1,.int .i64 a0_2,.int .i64 a0_3] 35 (0,0)) BK187.out) : gb188 ≠ gb187));clear BK187;clear HB;have BK187:=n0_;have HB:=n1_;have BK188:=n2_;have GW188:=n3_;have GE188:=n4_;have NB187_188:=n5_;have NB188_187:=n6_;clear n0_ n1_ n2_ n3_ n4_ n5_ n6_;clear hb hbox hg))
  have n0_:=Ak (kD BK187.out)
  have n1_:=Ak (kD BK188.out)
  have n2_:=Ak (bD HB.out)
  clear BK187 BK188 HB
  have BK187:=n0_;have BK188:=n1_;have HB:=n2_
  clear n0_ n1_ n2_
  refine start_ (n:=14) (S:=fun w' => w'.cell? ⟨gb187,0,none⟩ = some (.int .i64 a0_0)∧w'.cell? ⟨gb187,1,none⟩ = some (.int .i64 a0_1)∧w'.cell? ⟨gb187,2,none⟩ = some (.int .i64 a0_2)∧w'.cell? ⟨gb187,3,none⟩ = some (.int .i64 a0_3)) (ds:=[]) #[ff,ff,ff,ff,ff,ff,ff,ff,ff,ff,ff,ff,ff,ff] (by kernel_rfl) rfl rfl ⟨(kC BK187.out 0).trans rfl,(kC BK187.out 1).trans rfl,(kC BK187.out 2).trans rfl,(kC BK187.out 3).trans rfl⟩ (fun hHeld => ?_);refine with_tabW key_Covers.tab1 key_Covers.bits1 (fun HT_ HW_ => ?_)
  generalize w20.drew = w21 at BK187 BK188 HB hHeld ⊢
  refine take_ (i:=0) (N:=some 5) (v:=?_) (a':=?_) #[tt,ff,ff,ff,ff,ff,ff,ff,ff,ff,ff,ff,ff,ff] rfl rfl (take_ofW HT_.out HW_.out (by kernel_rfl)) (fun _ _ _ h => h) (Or.inl ⟨by rfl,?_⟩) hHeld ?_ ?_
  rotate_left
  ·rintro w' ⟨s0,s1,s2,s3⟩
   go_simp
   with_reducible rfl
  rotate_left
  ·simp only [Act.put,sA,sZ,sS,i64_w,i32_w]
   rfl
  refine one_ (i:=1) (N:=some 6) #[tt,tt,ff,ff,ff,ff,ff,ff,ff,ff,ff,ff,ff,ff] rfl rfl (one_of HT_.out (by kernel_rfl)) (by decide) (fun K hK => ?_)
  refine goes_ Try.func57 (by kernel_rfl) rfl #[.agg #[.int .i64 a0_0,.int .i64 a0_1,.int .i64 a0_2,.int .i64 a0_3]] (by rfl) rfl rfl (by (try simp only [List.map_toArray,List.map_cons,List.map_nil]);first|done|rfl|(simp only [List.length_drop,List.length_take];rfl)) ?_
  with_reducible refine (key_box.calls a0_0 a0_1 a0_2 a0_3 false _ A3.out).mono ?_
  rintro e w22 ⟨rfl,hb⟩
  refine ⟨_,rfl,?_⟩
  have n0_:=Kb BK187 hb
  have n1_:=Kb BK188 hb
  have n2_:=Kh HB hb
  clear BK187 BK188 HB
  have BK187:=n0_;have BK188:=n1_;have HB:=n2_
  clear n0_ n1_ n2_
  (try clear hb)
  (try clear hb2)
  (try clear hk)
  (try clear hi)
  refine hK.out _ _ ⟨(kC BK187.out 0).trans rfl,(kC BK187.out 1).trans rfl,(kC BK187.out 2).trans rfl,(kC BK187.out 3).trans rfl⟩ (fun hHeld => ?_)
  clear hK K
  refine norm_ (a':=?_) ?_ ?_
  rotate_left
  ·show Act.put _ (some 6) _ = _
   simp only [Act.put,sA,sZ,sS,i64_w,i32_w]
   rfl
  refine pure_ (i:=2) (N:=some 7) (v:=?_) (a':=?_) #[tt,tt,tt,ff,ff,ff,ff,ff,ff,ff,ff,ff,ff,ff] rfl rfl (any_of HT_.out (by kernel_rfl)) (fun _ _ _ h => h) (Or.inl ⟨by rfl,?_⟩) ?_ ?_
  rotate_left
  ·intro w'
   go_simp
   with_reducible rfl
  rotate_left
  ·simp only [Act.put,sA,sZ,sS,i64_w,i32_w]
   rfl
  refine pure_ (i:=3) (N:=some 8) (v:=undef) (a':=?_) #[tt,tt,tt,tt,ff,ff,ff,ff,ff,ff,ff,ff,ff,ff] rfl rfl (any_of HT_.out (by kernel_rfl)) (fun _ _ _ h => h) (Or.inr ⟨by rfl,rfl⟩) ?_ ?_
  rotate_left
  ·simp only [Act.put,sA,sZ,sS,i64_w,i32_w]
   rfl
  refine pure_ (i:=4) (N:=some 9) (v:=undef) (a':=?_) #[tt,tt,tt,tt,tt,ff,ff,ff,ff,ff,ff,ff,ff,ff] rfl rfl (any_of HT_.out (by kernel_rfl)) (fun _ _ _ h => h) (Or.inr ⟨by rfl,rfl⟩) ?_ ?_
  rotate_left
  ·simp only [Act.put,sA,sZ,sS,i64_w,i32_w]
   rfl
  refine pure_ (i:=5) (N:=some 10) (v:=?_) (a':=?_) #[tt,tt,tt,tt,tt,tt,ff,ff,ff,ff,ff,ff,ff,ff] rfl rfl (any_of HT_.out (by kernel_rfl)) (fun _ _ _ h => h) (Or.inl ⟨by rfl,?_⟩) ?_ ?_
  rotate_left
  ·intro w'
   go_simp
   with_reducible rfl
  rotate_left
  ·simp only [Act.put,sA,sZ,sS,i64_w,i32_w]
   rfl
  refine pure_ (i:=6) (N:=some 11) (v:=?_) (a':=?_) #[tt,tt,tt,tt,tt,tt,tt,ff,ff,ff,ff,ff,ff,ff] rfl rfl (any_of HT_.out (by kernel_rfl)) (fun _ _ _ h => h) (Or.inl ⟨by rfl,?_⟩) ?_ ?_
  rotate_left
  ·intro w'
   go_simp
   with_reducible rfl
  rotate_left
  ·simp only [Act.put,sA,sZ,sS,i64_w,i32_w]
   rfl
  refine pure_ (i:=7) (N:=some 12) (v:=undef) (a':=?_) #[tt,tt,tt,tt,tt,tt,tt,tt,ff,ff,ff,ff,ff,ff] rfl rfl (any_of HT_.out (by kernel_rfl)) (fun _ _ _ h => h) (Or.inr ⟨by rfl,rfl⟩) ?_ ?_
  rotate_left
  ·simp only [Act.put,sA,sZ,sS,i64_w,i32_w]
   rfl
  refine pure_ (i:=8) (N:=some 13) (v:=undef) (a':=?_) #[tt,tt,tt,tt,tt,tt,tt,tt,tt,ff,ff,ff,ff,ff] rfl rfl (any_of HT_.out (by kernel_rfl)) (fun _ _ _ h => h) (Or.inr ⟨by rfl,rfl⟩) ?_ ?_
  rotate_left
  ·simp only [Act.put,sA,sZ,sS,i64_w,i32_w]
   rfl
  refine pure_ (i:=9) (N:=some 14) (v:=undef) (a':=?_) #[tt,tt,tt,tt,tt,tt,tt,tt,tt,tt,ff,ff,ff,ff] rfl rfl (any_of HT_.out (by kernel_rfl)) (fun _ _ _ h => h) (Or.inr ⟨by rfl,rfl⟩) ?_ ?_
  rotate_left
  ·simp only [Act.put,sA,sZ,sS,i64_w,i32_w]
   rfl
  refine pure_ (i:=10) (N:=some 15) (v:=undef) (a':=?_) #[tt,tt,tt,tt,tt,tt,tt,tt,tt,tt,tt,ff,ff,ff] rfl rfl (any_of HT_.out (by kernel_rfl)) (fun _ _ _ h => h) (Or.inr ⟨by rfl,rfl⟩) ?_ ?_
  rotate_left
  ·simp only [Act.put,sA,sZ,sS,i64_w,i32_w]
   rfl
  refine pure_ (i:=11) (N:=some 16) (v:=undef) (a':=?_) #[tt,tt,tt,tt,tt,tt,tt,tt,tt,tt,tt,tt,ff,ff] rfl rfl (any_of HT_.out (by kernel_rfl)) (fun _ _ _ h => h) (Or.inr ⟨by rfl,rfl⟩) ?_ ?_
  rotate_left
  ·simp only [Act.put,sA,sZ,sS,i64_w,i32_w]
   rfl
  refine pure_ (i:=12) (N:=some 17) (v:=?_) (a':=?_) #[tt,tt,tt,tt,tt,tt,tt,tt,tt,tt,tt,tt,tt,ff] rfl rfl (any_of HT_.out (by kernel_rfl)) (fun _ _ _ h => h) (Or.inl ⟨by rfl,?_⟩) ?_ ?_
  rotate_left
  ·intro w'
   go_simp
   with_reducible rfl
  rotate_left
  ·simp only [Act.put,sA,sZ,sS,i64_w,i32_w]
   rfl
  refine pure_ (i:=13) (N:=some 4) (v:=?_) (a':=?_) #[tt,tt,tt,tt,tt,tt,tt,tt,tt,tt,tt,tt,tt,tt] rfl rfl (any_of HT_.out (by kernel_rfl)) (fun _ _ _ h => h) (Or.inl ⟨by rfl,?_⟩) ?_ ?_
  rotate_left
  ·intro w'
   go_simp
   with_reducible rfl
  rotate_left
  ·simp only [Act.put,sA,sZ,sS,i64_w,i32_w]
   rfl
  refine done_ (done_of HT_.out (by kernel_rfl)) ?_
  try go_wp2
  go_ret
  exact ⟨by first|rfl|(simp [errW_none,errW_some] <;> rfl)|(simp [*,errW_none,errW_some] <;> rfl),by repeat (first|(with_reducible first|exact HB.out|apply bA|apply bN|apply bD|refine bS ?_ GE187.out|refine bS ?_ GE188.out)|exact HB.out)⟩
end Go.Proofs.Ythlhmijgbjcloaa.A
end
section
namespace Go.Proofs.Ythlhmijgbjcloaa.A
open Go.RowKit Go.Proofs.YthlhmijgbjcloaaW.PrintWords Go.Proofs.YthlhmijgbjcloaaW.PrintLast Go.Proofs.YthlhmijgbjcloaaW.PrintMore
attribute [local go_sem] max2_int min2_int max_two min_two max_three min_three max_four min_four   -- for this text's walks alone
def wf35 (x : S35) : Prop := ((Lit.int .i64 x.f0).wf = true) ∧ ((Lit.int .i64 x.f1).wf = true) ∧ ((Lit.int .i64 x.f2).wf = true) ∧ ((Lit.int .i64 x.f3).wf = true)
theorem op35 : Opens 35 k35 wf35 := Opens.iso (fun x : S35 => (x.f0, x.f1, x.f2, x.f3)) (fun a => ⟨a.1, a.2.1, a.2.2.1, a.2.2.2⟩) (fun _ => rfl) (Opens.struct Try.underlying35 (by kernel_rfl) (OpensF.cons rfl (Opens.int Try.underlying2 (by kernel_rfl)) (OpensF.cons rfl (Opens.int Try.underlying2 (by kernel_rfl)) (OpensF.cons rfl (Opens.int Try.underlying2 (by kernel_rfl)) (OpensF.last rfl (Opens.int Try.underlying2 (by kernel_rfl)))))))
end Go.Proofs.Ythlhmijgbjcloaa.A
end
