/- What the row of this claim reaches. No condition. -/
import Derived.Laws.BytesArg
import Derived.WalkKit
import Derived.StillTailTactics
import Derived.Deep.RegionHeld3
import Derived.Laws.Bits64b
import Derived.Test.YthlhmijgbjcloaaCX0
set_option linter.unusedVariables false
set_option linter.unusedSimpArgs false
section
namespace Go.Proofs.Ythlhmijgbjcloaa.A
open Go.RowKit Go.Proofs.YthlhmijgbjcloaaW.PrintWords Go.Proofs.YthlhmijgbjcloaaW.PrintLast Go.Proofs.YthlhmijgbjcloaaW.PrintMore
attribute [local go_sem] max2_int min2_int max_two min_two max_three min_three max_four min_four   -- for this text's walks alone
def gazetteerref09_Box.f (a0_0 : Int) (a0_1 : Int) (a0_2 : Int) (a0_3 : Int) : Option (Bool) := if a0_0 ≤ a0_1 then (some (decide (a0_2 ≤ a0_3))) else (some false)
set_option maxHeartbeats 8000000 in
set_option maxRecDepth 100000 in
theorem gazetteerref09_Box.calls (a0_0 : Int) (a0_1 : Int) (a0_2 : Int) (a0_3 : Int) (r : Bool) (w : World) (h : gazetteerref09_Box.f a0_0 a0_1 a0_2 a0_3 = some r) :
  Calls Try.prog 59 #[.agg #[.int .i64 a0_0,.int .i64 a0_1,.int .i64 a0_2,.int .i64 a0_3]] w fun e w' => e = .returned (.bool r)∧Below w.heap.size w w':=by
 have hu35:=Try.underlying35
 have HB:=Ak (Below.refl w.heap.size w)
 have H : (if a0_0 ≤ a0_1 then (some (decide (a0_2 ≤ a0_3))) else (some false)) = some r:=h
 clear h
 by_cases c2 : a0_0 ≤ a0_1
 ·rw [if_pos c2] at H
  have c2b0 : decide (a0_0 ≤ a0_1) = true:=decide_eq_true c2
  clear c2
  obtain rfl:=Option.some.inj H
  go_enter Try.func59,Try.ntmps59
  go_wp2_with (first|((with_reducible refine gate_dst (N:=1) rfl ?_);refine box_event ?hg (N:=1) ?hd (cs:=#[.int .i64 a0_0,.int .i64 a0_1,.int .i64 a0_2,.int .i64 a0_3]) (t:=35) ?hr ?_;(case hd => rfl);(case hg => rfl);(case hr => first|(go_simp;done)|(go_simp;rfl));intro gb246 hg w3 hbox hb;have n0_:=Kh HB hb;have n1_:=Ak (hbox);have n2_:=Ak ((by rw [hg];exact (below_size HB.out) : w.heap.size ≤ gb246));have n3_:=Ak ((by rw [hg];exact (below_size HB.out) : w.heap.size ≤ gb246));clear HB;have HB:=n0_;have BK246:=n1_;have GW246:=n2_;have GE246:=n3_;clear n0_ n1_ n2_ n3_;clear hb hbox hg;have hcz4_0 : w3.cell? ⟨gb246,0,none⟩ = some (.int .i64 a0_0):=(kC BK246.out 0).trans rfl;have hcz4_1 : w3.cell? ⟨gb246,1,none⟩ = some (.int .i64 a0_1):=(kC BK246.out 1).trans rfl;have hcz4_2 : w3.cell? ⟨gb246,2,none⟩ = some (.int .i64 a0_2):=(kC BK246.out 2).trans rfl;have hcz4_3 : w3.cell? ⟨gb246,3,none⟩ = some (.int .i64 a0_3):=(kC BK246.out 3).trans rfl;have hfz4_0:=blk_frozen BK246.out 0;have hfz4_1:=blk_frozen BK246.out 1;have hfz4_2:=blk_frozen BK246.out 2;have hfz4_3:=blk_frozen BK246.out 3))
  go_ret
  exact ⟨by first|rfl|(simp [errW_none,errW_some] <;> rfl)|(simp [*,errW_none,errW_some] <;> rfl),by repeat (first|(with_reducible first|exact HB.out|apply bA|apply bN|apply bD|refine bS ?_ GE246.out)|exact HB.out)⟩
 ·rw [if_neg c2] at H
  have c2b0 : decide (a0_0 ≤ a0_1) = false:=decide_eq_false c2
  clear c2
  obtain rfl:=Option.some.inj H
  go_enter Try.func59,Try.ntmps59
  go_wp2_with (first|((with_reducible refine gate_dst (N:=1) rfl ?_);refine box_event ?hg (N:=1) ?hd (cs:=#[.int .i64 a0_0,.int .i64 a0_1,.int .i64 a0_2,.int .i64 a0_3]) (t:=35) ?hr ?_;(case hd => rfl);(case hg => rfl);(case hr => first|(go_simp;done)|(go_simp;rfl));intro gb246 hg w5 hbox hb;have n0_:=Kh HB hb;have n1_:=Ak (hbox);have n2_:=Ak ((by rw [hg];exact (below_size HB.out) : w.heap.size ≤ gb246));have n3_:=Ak ((by rw [hg];exact (below_size HB.out) : w.heap.size ≤ gb246));clear HB;have HB:=n0_;have BK246:=n1_;have GW246:=n2_;have GE246:=n3_;clear n0_ n1_ n2_ n3_;clear hb hbox hg;have hcz6_0 : w5.cell? ⟨gb246,0,none⟩ = some (.int .i64 a0_0):=(kC BK246.out 0).trans rfl;have hcz6_1 : w5.cell? ⟨gb246,1,none⟩ = some (.int .i64 a0_1):=(kC BK246.out 1).trans rfl;have hcz6_2 : w5.cell? ⟨gb246,2,none⟩ = some (.int .i64 a0_2):=(kC BK246.out 2).trans rfl;have hcz6_3 : w5.cell? ⟨gb246,3,none⟩ = some (.int .i64 a0_3):=(kC BK246.out 3).trans rfl;have hfz6_0:=blk_frozen BK246.out 0;have hfz6_1:=blk_frozen BK246.out 1;have hfz6_2:=blk_frozen BK246.out 2;have hfz6_3:=blk_frozen BK246.out 3))
  go_ret
  exact ⟨by first|rfl|(simp [errW_none,errW_some] <;> rfl)|(simp [*,errW_none,errW_some] <;> rfl),by repeat (first|(with_reducible first|exact HB.out|apply bA|apply bN|apply bD|refine bS ?_ GE246.out)|exact HB.out)⟩
mutual
def gazetteerref09_Union.j0 : Nat → Bool → Int → Int → Int → Int → Int → Int → Int → Int → Option (Int × Int × Int × Int)
  | 0, _, _, _, _, _, _, _, _, _ => none
  | k + 1, x12, x248000, x248001, x248002, x248003, x249000, x249001, x249002, x249003 => if x12 = true then (some (0, 0, 0, 0)) else (if x249000 < x248000 then (gazetteerref09_Union.j1 k x249000 x248001 x248002 x248003 x249000 x249001 x249002 x249003) else (gazetteerref09_Union.j1 k x248000 x248001 x248002 x248003 x249000 x249001 x249002 x249003))
def gazetteerref09_Union.j1 : Nat → Int → Int → Int → Int → Int → Int → Int → Int → Option (Int × Int × Int × Int)
  | 0, _, _, _, _, _, _, _, _ => none
  | k + 1, x248000, x248001, x248002, x248003, x249000, x249001, x249002, x249003 => if x249001 > x248001 then (gazetteerref09_Union.j2 k x248000 x249001 x248002 x248003 x249000 x249001 x249002 x249003) else (gazetteerref09_Union.j2 k x248000 x248001 x248002 x248003 x249000 x249001 x249002 x249003)
def gazetteerref09_Union.j2 : Nat → Int → Int → Int → Int → Int → Int → Int → Int → Option (Int × Int × Int × Int)
  | 0, _, _, _, _, _, _, _, _ => none
  | k + 1, x248000, x248001, x248002, x248003, x249000, x249001, x249002, x249003 => if x249002 < x248002 then (if x249003 > x248003 then (some (x248000, x248001, x249002, x249003)) else (some (x248000, x248001, x249002, x248003))) else (if x249003 > x248003 then (some (x248000, x248001, x248002, x249003)) else (some (x248000, x248001, x248002, x248003)))
end
def gazetteerref09_Union.f (k : Nat) (a0_0 : Int) (a0_1 : Int) (a0_2 : Int) (a0_3 : Int) (a1_0 : Int) (a1_1 : Int) (a1_2 : Int) (a1_3 : Int) : Option (Int × Int × Int × Int) := (gazetteerref09_Box.f a0_0 a0_1 a0_2 a0_3).bind fun t250 => (if t250 = true then ((gazetteerref09_Box.f a1_0 a1_1 a1_2 a1_3).bind fun t251 => (gazetteerref09_Union.j0 k (!t251) a0_0 a0_1 a0_2 a0_3 a1_0 a1_1 a1_2 a1_3)) else (gazetteerref09_Union.j0 k true a0_0 a0_1 a0_2 a0_3 a1_0 a1_1 a1_2 a1_3))
set_option maxHeartbeats 8000000 in
set_option maxRecDepth 100000 in
theorem gazetteerref09_Union.calls (k : Nat) (a0_0 : Int) (a0_1 : Int) (a0_2 : Int) (a0_3 : Int) (a1_0 : Int) (a1_1 : Int) (a1_2 : Int) (a1_3 : Int) (r1 : Int) (r2 : Int) (r3 : Int) (r4 : Int) (w : World) (h : gazetteerref09_Union.f k a0_0 a0_1 a0_2 a0_3 a1_0 a1_1 a1_2 a1_3 = some (r1,r2,r3,r4)) :
  Calls Try.prog 46 #[.agg #[.int .i64 a0_0,.int .i64 a0_1,.int .i64 a0_2,.int .i64 a0_3],.agg #[.int .i64 a1_0,.int .i64 a1_1,.int .i64 a1_2,.int .i64 a1_3]] w fun e w' => e = .returned (.agg #[.int .i64 r1,.int .i64 r2,.int .i64 r3,.int .i64 r4])∧Below w.heap.size w w':=by
 have hu35:=Try.underlying35
 have HB:=Ak (Below.refl w.heap.size w)
 have H : ((gazetteerref09_Box.f a0_0 a0_1 a0_2 a0_3).bind fun t250 => (if t250 = true then ((gazetteerref09_Box.f a1_0 a1_1 a1_2 a1_3).bind fun t251 => (gazetteerref09_Union.j0 k (!t251) a0_0 a0_1 a0_2 a0_3 a1_0 a1_1 a1_2 a1_3)) else (gazetteerref09_Union.j0 k true a0_0 a0_1 a0_2 a0_3 a1_0 a1_1 a1_2 a1_3))) = some (r1,r2,r3,r4):=h
 clear h
 have HC3:=Ak H
 clear H
 go_enter Try.func46,Try.ntmps46
 go_upto_region 1 with (first|((with_reducible refine gate_dst (N:=2) rfl ?_);refine box_event ?hg (N:=2) ?hd (cs:=#[.int .i64 a0_0,.int .i64 a0_1,.int .i64 a0_2,.int .i64 a0_3]) (t:=35) ?hr ?_;(case hd => rfl);(case hg => rfl);(case hr => first|(go_simp;done)|(go_simp;rfl));intro gb247 hg w4 hbox hb;have n0_:=Kh HB hb;have n1_:=Ak (hbox);have n2_:=Ak ((by rw [hg];exact (below_size HB.out) : w.heap.size ≤ gb247));have n3_:=Ak ((by rw [hg];exact (below_size HB.out) : w.heap.size ≤ gb247));clear HB;have HB:=n0_;have BK247:=n1_;have GW247:=n2_;have GE247:=n3_;clear n0_ n1_ n2_ n3_;clear hb hbox hg)|((with_reducible refine gate_dst (N:=3) rfl ?_);refine box_event ?hg (N:=3) ?hd (cs:=#[.int .i64 a1_0,.int .i64 a1_1,.int .i64 a1_2,.int .i64 a1_3]) (t:=35) ?hr ?_;(case hd => rfl);(case hg => rfl);(case hr => first|(go_simp;done)|(go_simp;rfl));intro gb248 hg w5 hbox hb;have n0_:=Kb BK247 hb;have n1_:=Kh HB hb;have n2_:=Ak (hbox);have n3_:=Ak ((by rw [hg];exact (below_size HB.out) : w.heap.size ≤ gb248));have n4_:=Ak ((by rw [hg];exact (below_size HB.out) : w.heap.size ≤ gb248));have n5_:=Ak ((by rw [hg];exact Nat.ne_of_lt (blk_lt (g:=gb247) (o:=.cells #[.int .i64 a0_0,.int .i64 a0_1,.int .i64 a0_2,.int .i64 a0_3] 35 (0,0)) BK247.out) : gb247 ≠ gb248));have n6_:=Ak ((by rw [hg];exact Nat.ne_of_gt (blk_lt (g:=gb247) (o:=.cells #[.int .i64 a0_0,.int .i64 a0_1,.int .i64 a0_2,.int .i64 a0_3] 35 (0,0)) BK247.out) : gb248 ≠ gb247));clear BK247;clear HB;have BK247:=n0_;have HB:=n1_;have BK248:=n2_;have GW248:=n3_;have GE248:=n4_;have NB247_248:=n5_;have NB248_247:=n6_;clear n0_ n1_ n2_ n3_ n4_ n5_ n6_;clear hb hbox hg)|((with_reducible refine gate_dst (N:=4) rfl ?_);refine box_event ?hg (N:=4) ?hd (cs:=#[.int .i64 0,.int .i64 0,.int .i64 0,.int .i64 0]) (t:=35) ?hr ?_;(case hd => rfl);(case hg => rfl);(case hr => first|(go_simp;done)|(go_simp;rfl));intro gb249 hg w6 hbox hb;have n0_:=Kb BK247 hb;have n1_:=Kb BK248 hb;have n2_:=Kh HB hb;have n3_:=Ak (hbox);have n4_:=Ak ((by rw [hg];exact (below_size HB.out) : w.heap.size ≤ gb249));have n5_:=Ak ((by rw [hg];exact (below_size HB.out) : w.heap.size ≤ gb249));have n6_:=Ak ((by rw [hg];exact Nat.ne_of_lt (blk_lt (g:=gb247) (o:=.cells #[.int .i64 a0_0,.int .i64 a0_1,.int .i64 a0_2,.int .i64 a0_3] 35 (0,0)) BK247.out) : gb247 ≠ gb249));have n7_:=Ak ((by rw [hg];exact Nat.ne_of_gt (blk_lt (g:=gb247) (o:=.cells #[.int .i64 a0_0,.int .i64 a0_1,.int .i64 a0_2,.int .i64 a0_3] 35 (0,0)) BK247.out) : gb249 ≠ gb247));have n8_:=Ak ((by rw [hg];exact Nat.ne_of_lt (blk_lt (g:=gb248) (o:=.cells #[.int .i64 a1_0,.int .i64 a1_1,.int .i64 a1_2,.int .i64 a1_3] 35 (0,0)) BK248.out) : gb248 ≠ gb249));have n9_:=Ak ((by rw [hg];exact Nat.ne_of_gt (blk_lt (g:=gb248) (o:=.cells #[.int .i64 a1_0,.int .i64 a1_1,.int .i64 a1_2,.int .i64 a1_3] 35 (0,0)) BK248.out) : gb249 ≠ gb248));clear BK247;clear BK248;clear HB;have BK247:=n0_;have BK248:=n1_;have HB:=n2_;have BK249:=n3_;have GW249:=n4_;have GE249:=n5_;have NB247_249:=n6_;have NB249_247:=n7_;have NB248_249:=n8_;have NB249_248:=n9_;clear n0_ n1_ n2_ n3_ n4_ n5_ n6_ n7_ n8_ n9_;clear hb hbox hg))
 (try simp only [Act.put,sA,sZ,sS])
 go_cut [12] (fun v12 wc => ∃ (kq : Nat) (x12_2 : Bool),v12 = .bool x12_2∧Aside0 (gazetteerref09_Union.j0 kq x12_2 a0_0 a0_1 a0_2 a0_3 a1_0 a1_1 a1_2 a1_3 = some (r1,r2,r3,r4))∧Aside0 (kq ≤ k)∧Aside0 (wc.heap[gb247]? = some (.cells #[.int .i64 a0_0,.int .i64 a0_1,.int .i64 a0_2,.int .i64 a0_3] 35 (0,0)))∧Aside0 (wc.heap[gb248]? = some (.cells #[.int .i64 a1_0,.int .i64 a1_1,.int .i64 a1_2,.int .i64 a1_3] 35 (0,0)))∧Aside0 (wc.heap[gb249]? = some (.cells #[.int .i64 0,.int .i64 0,.int .i64 0,.int .i64 0] 35 (0,0)))∧Aside0 (Below w.heap.size w wc))
 case first =>
  have H:=HC3.out
  clear HC3
  replace H:=Option.bind_eq_some_iff.mp H
  obtain ⟨t250,A70,H⟩:=H
  replace H : (if t250 = true then ((gazetteerref09_Box.f a1_0 a1_1 a1_2 a1_3).bind fun t251 => (gazetteerref09_Union.j0 k (!t251) a0_0 a0_1 a0_2 a0_3 a1_0 a1_1 a1_2 a1_3)) else (gazetteerref09_Union.j0 k true a0_0 a0_1 a0_2 a0_3 a1_0 a1_1 a1_2 a1_3)) = some (r1,r2,r3,r4):=H
  have A7:=Ak A70
  clear A70
  by_cases c8 : t250 = true
  ·subst c8
   have H1 : ((gazetteerref09_Box.f a1_0 a1_1 a1_2 a1_3).bind fun t251 => (gazetteerref09_Union.j0 k (!t251) a0_0 a0_1 a0_2 a0_3 a1_0 a1_1 a1_2 a1_3)) = some (r1,r2,r3,r4):=by rw [if_pos rfl] at H;exact H
   clear H
   have H:=H1
   clear H1
   replace H:=Option.bind_eq_some_iff.mp H
   obtain ⟨t251,A90,H⟩:=H
   replace H : (gazetteerref09_Union.j0 k (!t251) a0_0 a0_1 a0_2 a0_3 a1_0 a1_1 a1_2 a1_3) = some (r1,r2,r3,r4):=H
   have A9:=Ak A90
   clear A90
   have H':=Ak H
   clear H
   have hnb10:=NB247_248.out
   have hnc10:=NB248_247.out
   have hnb11:=NB247_249.out
   have hnc11:=NB249_247.out
   have hcz12_0 : w6.cell? ⟨gb247,0,none⟩ = some (.int .i64 a0_0):=(kC BK247.out 0).trans rfl
   have hcz12_1 : w6.cell? ⟨gb247,1,none⟩ = some (.int .i64 a0_1):=(kC BK247.out 1).trans rfl
   have hcz12_2 : w6.cell? ⟨gb247,2,none⟩ = some (.int .i64 a0_2):=(kC BK247.out 2).trans rfl
   have hcz12_3 : w6.cell? ⟨gb247,3,none⟩ = some (.int .i64 a0_3):=(kC BK247.out 3).trans rfl
   have hfz12_0:=blk_frozen BK247.out 0
   have hfz12_1:=blk_frozen BK247.out 1
   have hfz12_2:=blk_frozen BK247.out 2
   have hfz12_3:=blk_frozen BK247.out 3
   go_wp2_with (first|((with_reducible refine gate_callee (f:=59) rfl ?_);refine goesL_ (some 6) rfl rfl Try.func59 (by kernel_rfl) rfl #[.agg #[.int .i64 a0_0,.int .i64 a0_1,.int .i64 a0_2,.int .i64 a0_3]] rfl (by (try simp only [List.map_toArray,List.map_cons,List.map_nil]);first|done|rfl|(simp only [List.length_drop,List.length_take];rfl)) ?_;(with_reducible refine (gazetteerref09_Box.calls a0_0 a0_1 a0_2 a0_3 true _ A7.out).mono ?_);rintro e w13 ⟨rfl,hb⟩;refine ⟨_,rfl,?_⟩;have n0_:=Kb BK247 hb;have n1_:=Kb BK248 hb;have n2_:=Kb BK249 hb;have n3_:=Kh HB hb;clear BK247;clear BK248;clear BK249;clear HB;have BK247:=n0_;have BK248:=n1_;have BK249:=n2_;have HB:=n3_;clear n0_ n1_ n2_ n3_;(try clear hb);(try clear hb2);(try clear hk);(try clear hi);have hnb14:=NB248_249.out;have hnc14:=NB249_248.out;have hcz15_0 : w13.cell? ⟨gb248,0,none⟩ = some (.int .i64 a1_0):=(kC BK248.out 0).trans rfl;have hcz15_1 : w13.cell? ⟨gb248,1,none⟩ = some (.int .i64 a1_1):=(kC BK248.out 1).trans rfl;have hcz15_2 : w13.cell? ⟨gb248,2,none⟩ = some (.int .i64 a1_2):=(kC BK248.out 2).trans rfl;have hcz15_3 : w13.cell? ⟨gb248,3,none⟩ = some (.int .i64 a1_3):=(kC BK248.out 3).trans rfl;have hfz15_0:=blk_frozen BK248.out 0;have hfz15_1:=blk_frozen BK248.out 1;have hfz15_2:=blk_frozen BK248.out 2;have hfz15_3:=blk_frozen BK248.out 3)|(go_at_call 59;(with_reducible refine (gazetteerref09_Box.calls a1_0 a1_1 a1_2 a1_3 t251 _ A9.out).mono ?_);rintro e w16 ⟨rfl,hb⟩;have n0_:=Kb BK247 hb;have n1_:=Kb BK248 hb;have n2_:=Kb BK249 hb;have n3_:=Kh HB hb;clear BK247;clear BK248;clear BK249;clear HB;have BK247:=n0_;have BK248:=n1_;have BK249:=n2_;have HB:=n3_;clear n0_ n1_ n2_ n3_;(try clear hb);(try clear hb2);(try clear hk);(try clear hi)))
   go_meet
   case rel => exact ⟨_,(!t251),(by first|rfl|(simp;done)|(simp [*];done)),H',⟨by first|omega|exact Nat.le_refl _⟩,⟨by (with_reducible repeat (first|refine kN ?_ _|refine kD ?_|refine kA ?_ _));exact BK247.out⟩,⟨by (with_reducible repeat (first|refine kN ?_ _|refine kD ?_|refine kA ?_ _));exact BK248.out⟩,⟨by (with_reducible repeat (first|refine kN ?_ _|refine kD ?_|refine kA ?_ _));exact BK249.out⟩,⟨by repeat (first|(with_reducible first|exact HB.out|apply bA|apply bN|apply bD|refine bS ?_ GE247.out|refine bS ?_ GE248.out|refine bS ?_ GE249.out)|exact HB.out)⟩⟩
  ·replace c8:=Bool.eq_false_iff.mpr c8
   subst c8
   have H1 : (gazetteerref09_Union.j0 k true a0_0 a0_1 a0_2 a0_3 a1_0 a1_1 a1_2 a1_3) = some (r1,r2,r3,r4):=by rw [if_neg (show ¬ (false = true) by decide)] at H;exact H
   clear H
   have H:=H1
   clear H1
   have H':=Ak H
   clear H
   have hnb17:=NB247_248.out
   have hnc17:=NB248_247.out
   have hnb18:=NB247_249.out
   have hnc18:=NB249_247.out
   have hcz19_0 : w6.cell? ⟨gb247,0,none⟩ = some (.int .i64 a0_0):=(kC BK247.out 0).trans rfl
   have hcz19_1 : w6.cell? ⟨gb247,1,none⟩ = some (.int .i64 a0_1):=(kC BK247.out 1).trans rfl
   have hcz19_2 : w6.cell? ⟨gb247,2,none⟩ = some (.int .i64 a0_2):=(kC BK247.out 2).trans rfl
   have hcz19_3 : w6.cell? ⟨gb247,3,none⟩ = some (.int .i64 a0_3):=(kC BK247.out 3).trans rfl
   have hfz19_0:=blk_frozen BK247.out 0
   have hfz19_1:=blk_frozen BK247.out 1
   have hfz19_2:=blk_frozen BK247.out 2
   have hfz19_3:=blk_frozen BK247.out 3
   go_wp2_with (first|((with_reducible refine gate_callee (f:=59) rfl ?_);refine goesL_ (some 6) rfl rfl Try.func59 (by kernel_rfl) rfl #[.agg #[.int .i64 a0_0,.int .i64 a0_1,.int .i64 a0_2,.int .i64 a0_3]] rfl (by (try simp only [List.map_toArray,List.map_cons,List.map_nil]);first|done|rfl|(simp only [List.length_drop,List.length_take];rfl)) ?_;(with_reducible refine (gazetteerref09_Box.calls a0_0 a0_1 a0_2 a0_3 false _ A7.out).mono ?_);rintro e w20 ⟨rfl,hb⟩;refine ⟨_,rfl,?_⟩;have n0_:=Kb BK247 hb;have n1_:=Kb BK248 hb;have n2_:=Kb BK249 hb;have n3_:=Kh HB hb;clear BK247;clear BK248;clear BK249;clear HB;have BK247:=n0_;have BK248:=n1_;have BK249:=n2_;have HB:=n3_;clear n0_ n1_ n2_ n3_;(try clear hb);(try clear hb2);(try clear hk);(try clear hi)))
   go_meet
   case rel => exact ⟨_,(true),(by first|rfl|(simp;done)|(simp [*];done)),H',⟨by first|omega|exact Nat.le_refl _⟩,⟨by (with_reducible repeat (first|refine kN ?_ _|refine kD ?_|refine kA ?_ _));exact BK247.out⟩,⟨by (with_reducible repeat (first|refine kN ?_ _|refine kD ?_|refine kA ?_ _));exact BK248.out⟩,⟨by (with_reducible repeat (first|refine kN ?_ _|refine kD ?_|refine kA ?_ _));exact BK249.out⟩,⟨by repeat (first|(with_reducible first|exact HB.out|apply bA|apply bN|apply bD|refine bS ?_ GE247.out|refine bS ?_ GE248.out|refine bS ?_ GE249.out)|exact HB.out)⟩⟩
 case rest =>
  clear HC3
  try clear c1
  try clear p2
  try clear c4
  try clear c5
  try clear c8
  try clear c10
  try clear c11
  try clear c14
  try clear c17
  try clear c18
  try clear hcz12_0
  try clear hcz12_1
  try clear hcz12_2
  try clear hcz12_3
  try clear hcz15_0
  try clear hcz15_1
  try clear hcz15_2
  try clear hcz15_3
  try clear hcz19_0
  try clear hcz19_1
  try clear hcz19_2
  try clear hcz19_3
  try clear hfz12_0
  try clear hfz12_1
  try clear hfz12_2
  try clear hfz12_3
  try clear hfz15_0
  try clear hfz15_1
  try clear hfz15_2
  try clear hfz15_3
  try clear hfz19_0
  try clear hfz19_1
  try clear hfz19_2
  try clear hfz19_3
  obtain ⟨kq,x12_2,rfl,HA,HJ2,BK247,BK248,BK249,HB⟩:=hcut
  cases kq with
  | zero => exact absurd HA.out (by simp [gazetteerref09_Union.j0])
  | succ kj2 =>
   have H:=HA.out
   clear HA
   simp only [gazetteerref09_Union.j0] at H
   by_cases c21 : x12_2 = true
   ·subst c21
    have H1 : (some (0,0,0,0)) = some (r1,r2,r3,r4):=by rw [if_pos rfl] at H;exact H
    clear H
    have H:=H1
    clear H1
    simp only [Option.some.injEq,Prod.mk.injEq] at H
    obtain ⟨rfl,rfl,rfl,rfl⟩:=H
    have hnb22:=NB249_247.out
    have hnc22:=NB247_249.out
    have hnb23:=NB249_248.out
    have hnc23:=NB248_249.out
    have hcz24_0 : wc.cell? ⟨gb249,0,none⟩ = some (.int .i64 0):=(kC BK249.out 0).trans rfl
    have hcz24_1 : wc.cell? ⟨gb249,1,none⟩ = some (.int .i64 0):=(kC BK249.out 1).trans rfl
    have hcz24_2 : wc.cell? ⟨gb249,2,none⟩ = some (.int .i64 0):=(kC BK249.out 2).trans rfl
    have hcz24_3 : wc.cell? ⟨gb249,3,none⟩ = some (.int .i64 0):=(kC BK249.out 3).trans rfl
    have hfz24_0:=blk_frozen BK249.out 0
    have hfz24_1:=blk_frozen BK249.out 1
    have hfz24_2:=blk_frozen BK249.out 2
    have hfz24_3:=blk_frozen BK249.out 3
    go_wp2
    refine bodyPost_ret (results_cell_row rfl _ _ gb249 35 #[.int .i64 0,.int .i64 0,.int .i64 0,.int .i64 0] (0,0) _ rfl (by (with_reducible repeat (first|refine kN ?_ _|refine kD ?_|refine kA ?_ _));refine blk_put (cs:=#[.int .i64 0,.int .i64 0,.int .i64 0,.int .i64 0]) ?_ 3 _ rfl;(with_reducible repeat (first|refine kN ?_ _|refine kD ?_|refine kA ?_ _));refine blk_put (cs:=#[.int .i64 0,.int .i64 0,.int .i64 0,.int .i64 0]) ?_ 2 _ rfl;(with_reducible repeat (first|refine kN ?_ _|refine kD ?_|refine kA ?_ _));refine blk_put (cs:=#[.int .i64 0,.int .i64 0,.int .i64 0,.int .i64 0]) ?_ 1 _ rfl;(with_reducible repeat (first|refine kN ?_ _|refine kD ?_|refine kA ?_ _));refine blk_put (cs:=#[.int .i64 0,.int .i64 0,.int .i64 0,.int .i64 0]) ?_ 0 _ rfl;(with_reducible repeat (first|refine kN ?_ _|refine kD ?_|refine kA ?_ _));exact BK249.out) Try.underlying35 rfl (by kernel_rfl)) rfl ?_
    exact ⟨by first|rfl|(simp [errW_none,errW_some] <;> rfl)|(simp [*,errW_none,errW_some] <;> rfl),by repeat (first|(with_reducible first|exact HB.out|apply bA|apply bN|apply bD|refine bS ?_ GE247.out|refine bS ?_ GE248.out|refine bS ?_ GE249.out)|exact HB.out)⟩
   ·replace c21:=Bool.eq_false_iff.mpr c21
    subst c21
    have H1 : (if a1_0 < a0_0 then (gazetteerref09_Union.j1 kj2 a1_0 a0_1 a0_2 a0_3 a1_0 a1_1 a1_2 a1_3) else (gazetteerref09_Union.j1 kj2 a0_0 a0_1 a0_2 a0_3 a1_0 a1_1 a1_2 a1_3)) = some (r1,r2,r3,r4):=by rw [if_neg (show ¬ (false = true) by decide)] at H;exact H
    clear H
    have H:=H1
    clear H1
    have HC25:=Ak H
    clear H
    have hnb26:=NB248_247.out
    have hnc26:=NB247_248.out
    have hnb27:=NB248_249.out
    have hnc27:=NB249_248.out
    have hcz28_0 : wc.cell? ⟨gb248,0,none⟩ = some (.int .i64 a1_0):=(kC BK248.out 0).trans rfl
    have hcz28_1 : wc.cell? ⟨gb248,1,none⟩ = some (.int .i64 a1_1):=(kC BK248.out 1).trans rfl
    have hcz28_2 : wc.cell? ⟨gb248,2,none⟩ = some (.int .i64 a1_2):=(kC BK248.out 2).trans rfl
    have hcz28_3 : wc.cell? ⟨gb248,3,none⟩ = some (.int .i64 a1_3):=(kC BK248.out 3).trans rfl
    have hfz28_0:=blk_frozen BK248.out 0
    have hfz28_1:=blk_frozen BK248.out 1
    have hfz28_2:=blk_frozen BK248.out 2
    have hfz28_3:=blk_frozen BK248.out 3
    have hnb29:=NB247_249.out
    have hnc29:=NB249_247.out
    have hcz30_0 : wc.cell? ⟨gb247,0,none⟩ = some (.int .i64 a0_0):=(kC BK247.out 0).trans rfl
    have hcz30_1 : wc.cell? ⟨gb247,1,none⟩ = some (.int .i64 a0_1):=(kC BK247.out 1).trans rfl
    have hcz30_2 : wc.cell? ⟨gb247,2,none⟩ = some (.int .i64 a0_2):=(kC BK247.out 2).trans rfl
    have hcz30_3 : wc.cell? ⟨gb247,3,none⟩ = some (.int .i64 a0_3):=(kC BK247.out 3).trans rfl
    have hfz30_0:=blk_frozen BK247.out 0
    have hfz30_1:=blk_frozen BK247.out 1
    have hfz30_2:=blk_frozen BK247.out 2
    have hfz30_3:=blk_frozen BK247.out 3
    go_upto_if 18 with (fail)
    go_cut [] (fun wc => ∃ (kq : Nat) (x248000_24 : Int),Aside0 (gazetteerref09_Union.j1 kq x248000_24 a0_1 a0_2 a0_3 a1_0 a1_1 a1_2 a1_3 = some (r1,r2,r3,r4))∧Aside0 (kq ≤ kj2)∧Aside0 (wc.heap[gb247]? = some (.cells #[.int .i64 x248000_24,.int .i64 a0_1,.int .i64 a0_2,.int .i64 a0_3] 35 (0,0)))∧Aside0 (wc.heap[gb248]? = some (.cells #[.int .i64 a1_0,.int .i64 a1_1,.int .i64 a1_2,.int .i64 a1_3] 35 (0,0)))∧Aside0 (wc.heap[gb249]? = some (.cells #[.int .i64 0,.int .i64 0,.int .i64 0,.int .i64 0] 35 (0,0)))∧Aside0 (Below w.heap.size w wc))
    case first =>
     have H:=HC25.out
     clear HC25
     by_cases c31 : a1_0 < a0_0
     ·rw [if_pos c31] at H
      have c31b0 : decide (a1_0 < a0_0) = true:=decide_eq_true c31
      clear c31
      (first|rw [c31b0]|(simp only [i64_w,i32_w];rw [c31b0])|skip)
      have H':=Ak H
      clear H
      have hnb32:=NB248_247.out
      have hnc32:=NB247_248.out
      have hnb33:=NB248_249.out
      have hnc33:=NB249_248.out
      have hcz34_0 : wc.cell? ⟨gb248,0,none⟩ = some (.int .i64 a1_0):=(kC BK248.out 0).trans rfl
      have hcz34_1 : wc.cell? ⟨gb248,1,none⟩ = some (.int .i64 a1_1):=(kC BK248.out 1).trans rfl
      have hcz34_2 : wc.cell? ⟨gb248,2,none⟩ = some (.int .i64 a1_2):=(kC BK248.out 2).trans rfl
      have hcz34_3 : wc.cell? ⟨gb248,3,none⟩ = some (.int .i64 a1_3):=(kC BK248.out 3).trans rfl
      have hfz34_0:=blk_frozen BK248.out 0
      have hfz34_1:=blk_frozen BK248.out 1
      have hfz34_2:=blk_frozen BK248.out 2
      have hfz34_3:=blk_frozen BK248.out 3
      have hnb35:=NB247_249.out
      have hnc35:=NB249_247.out
      have hcz36_0 : wc.cell? ⟨gb247,0,none⟩ = some (.int .i64 a0_0):=(kC BK247.out 0).trans rfl
      have hcz36_1 : wc.cell? ⟨gb247,1,none⟩ = some (.int .i64 a0_1):=(kC BK247.out 1).trans rfl
      have hcz36_2 : wc.cell? ⟨gb247,2,none⟩ = some (.int .i64 a0_2):=(kC BK247.out 2).trans rfl
      have hcz36_3 : wc.cell? ⟨gb247,3,none⟩ = some (.int .i64 a0_3):=(kC BK247.out 3).trans rfl
      have hfz36_0:=blk_frozen BK247.out 0
      have hfz36_1:=blk_frozen BK247.out 1
      have hfz36_2:=blk_frozen BK247.out 2
      have hfz36_3:=blk_frozen BK247.out 3
      go_wp2
      go_meet
      case rel => exact ⟨_,(a1_0),H',⟨by have:=HJ2.out;first|omega|exact Nat.le_refl _⟩,⟨by (with_reducible repeat (first|refine kN ?_ _|refine kD ?_|refine kA ?_ _));refine blk_put (cs:=#[.int .i64 a0_0,.int .i64 a0_1,.int .i64 a0_2,.int .i64 a0_3]) ?_ 0 _ rfl;(with_reducible repeat (first|refine kN ?_ _|refine kD ?_|refine kA ?_ _));exact BK247.out⟩,⟨by (with_reducible repeat (first|refine kN ?_ _|refine kD ?_|refine kA ?_ _));refine blk_far ?_ NB248_247.out _;(with_reducible repeat (first|refine kN ?_ _|refine kD ?_|refine kA ?_ _));exact BK248.out⟩,⟨by (with_reducible repeat (first|refine kN ?_ _|refine kD ?_|refine kA ?_ _));refine blk_far ?_ NB249_247.out _;(with_reducible repeat (first|refine kN ?_ _|refine kD ?_|refine kA ?_ _));exact BK249.out⟩,⟨by repeat (first|(with_reducible first|exact HB.out|apply bA|apply bN|apply bD|refine bS ?_ GE247.out|refine bS ?_ GE248.out|refine bS ?_ GE249.out)|exact HB.out)⟩⟩
     ·rw [if_neg c31] at H
      have c31b0 : decide (a1_0 < a0_0) = false:=decide_eq_false c31
      clear c31
      (first|rw [c31b0]|(simp only [i64_w,i32_w];rw [c31b0])|skip)
      have H':=Ak H
      clear H
      go_wp2
      go_meet
      case rel => exact ⟨_,(a0_0),H',⟨by have:=HJ2.out;first|omega|exact Nat.le_refl _⟩,⟨by (with_reducible repeat (first|refine kN ?_ _|refine kD ?_|refine kA ?_ _));exact BK247.out⟩,⟨by (with_reducible repeat (first|refine kN ?_ _|refine kD ?_|refine kA ?_ _));exact BK248.out⟩,⟨by (with_reducible repeat (first|refine kN ?_ _|refine kD ?_|refine kA ?_ _));exact BK249.out⟩,⟨by repeat (first|(with_reducible first|exact HB.out|apply bA|apply bN|apply bD|refine bS ?_ GE247.out|refine bS ?_ GE248.out|refine bS ?_ GE249.out)|exact HB.out)⟩⟩
    case rest =>
     clear HC25
     try clear c1
     try clear c2
     try clear p2
     try clear c3
     try clear c4
     try clear c5
     try clear c8
     try clear c10
     try clear c11
     try clear c14
     try clear c17
     try clear c18
     try clear c21
     try clear c22
     try clear c23
     try clear c26
     try clear c27
     try clear c29
     try clear c31
     try clear c31b0
     try clear c32
     try clear c33
     try clear c35
     try clear hcz12_0
     try clear hcz12_1
     try clear hcz12_2
     try clear hcz12_3
     try clear hcz15_0
     try clear hcz15_1
     try clear hcz15_2
     try clear hcz15_3
     try clear hcz19_0
     try clear hcz19_1
     try clear hcz19_2
     try clear hcz19_3
     try clear hcz24_0
     try clear hcz24_1
     try clear hcz24_2
     try clear hcz24_3
     try clear hcz28_0
     try clear hcz28_1
     try clear hcz28_2
     try clear hcz28_3
     try clear hcz30_0
     try clear hcz30_1
     try clear hcz30_2
     try clear hcz30_3
     try clear hcz34_0
     try clear hcz34_1
     try clear hcz34_2
     try clear hcz34_3
     try clear hcz36_0
     try clear hcz36_1
     try clear hcz36_2
     try clear hcz36_3
     try clear hfz12_0
     try clear hfz12_1
     try clear hfz12_2
     try clear hfz12_3
     try clear hfz15_0
     try clear hfz15_1
     try clear hfz15_2
     try clear hfz15_3
     try clear hfz19_0
     try clear hfz19_1
     try clear hfz19_2
     try clear hfz19_3
     try clear hfz24_0
     try clear hfz24_1
     try clear hfz24_2
     try clear hfz24_3
     try clear hfz28_0
     try clear hfz28_1
     try clear hfz28_2
     try clear hfz28_3
     try clear hfz30_0
     try clear hfz30_1
     try clear hfz30_2
     try clear hfz30_3
     try clear hfz34_0
     try clear hfz34_1
     try clear hfz34_2
     try clear hfz34_3
     try clear hfz36_0
     try clear hfz36_1
     try clear hfz36_2
     try clear hfz36_3
     try clear p2
     obtain ⟨kq,x248000_24,HA,HJ24,BK247,BK248,BK249,HB⟩:=hcut
     cases kq with
     | zero => exact absurd HA.out (by simp [gazetteerref09_Union.j1])
     | succ kj24 =>
      have H:=HA.out
      clear HA
      simp only [gazetteerref09_Union.j1] at H
      have HC37:=Ak H
      clear H
      have hnb38:=NB248_247.out
      have hnc38:=NB247_248.out
      have hnb39:=NB248_249.out
      have hnc39:=NB249_248.out
      have hcz40_0 : wc.cell? ⟨gb248,0,none⟩ = some (.int .i64 a1_0):=(kC BK248.out 0).trans rfl
      have hcz40_1 : wc.cell? ⟨gb248,1,none⟩ = some (.int .i64 a1_1):=(kC BK248.out 1).trans rfl
      have hcz40_2 : wc.cell? ⟨gb248,2,none⟩ = some (.int .i64 a1_2):=(kC BK248.out 2).trans rfl
      have hcz40_3 : wc.cell? ⟨gb248,3,none⟩ = some (.int .i64 a1_3):=(kC BK248.out 3).trans rfl
      have hfz40_0:=blk_frozen BK248.out 0
      have hfz40_1:=blk_frozen BK248.out 1
      have hfz40_2:=blk_frozen BK248.out 2
      have hfz40_3:=blk_frozen BK248.out 3
      have hnb41:=NB247_249.out
      have hnc41:=NB249_247.out
      have hcz42_0 : wc.cell? ⟨gb247,0,none⟩ = some (.int .i64 x248000_24):=(kC BK247.out 0).trans rfl
      have hcz42_1 : wc.cell? ⟨gb247,1,none⟩ = some (.int .i64 a0_1):=(kC BK247.out 1).trans rfl
      have hcz42_2 : wc.cell? ⟨gb247,2,none⟩ = some (.int .i64 a0_2):=(kC BK247.out 2).trans rfl
      have hcz42_3 : wc.cell? ⟨gb247,3,none⟩ = some (.int .i64 a0_3):=(kC BK247.out 3).trans rfl
      have hfz42_0:=blk_frozen BK247.out 0
      have hfz42_1:=blk_frozen BK247.out 1
      have hfz42_2:=blk_frozen BK247.out 2
      have hfz42_3:=blk_frozen BK247.out 3
      go_upto_if 26 with (fail)
      go_cut [] (fun wc => ∃ (kq : Nat) (x248001_36 : Int),Aside0 (gazetteerref09_Union.j2 kq x248000_24 x248001_36 a0_2 a0_3 a1_0 a1_1 a1_2 a1_3 = some (r1,r2,r3,r4))∧Aside0 (kq ≤ kj24)∧Aside0 (wc.heap[gb247]? = some (.cells #[.int .i64 x248000_24,.int .i64 x248001_36,.int .i64 a0_2,.int .i64 a0_3] 35 (0,0)))∧Aside0 (wc.heap[gb248]? = some (.cells #[.int .i64 a1_0,.int .i64 a1_1,.int .i64 a1_2,.int .i64 a1_3] 35 (0,0)))∧Aside0 (wc.heap[gb249]? = some (.cells #[.int .i64 0,.int .i64 0,.int .i64 0,.int .i64 0] 35 (0,0)))∧Aside0 (Below w.heap.size w wc))
      case first =>
       have H:=HC37.out
       clear HC37
       by_cases c43 : a1_1 > a0_1
       ·rw [if_pos c43] at H
        have c43b0 : decide (a0_1 < a1_1) = true:=decide_eq_true c43
        clear c43
        (first|rw [c43b0]|(simp only [i64_w,i32_w];rw [c43b0])|skip)
        have H':=Ak H
        clear H
        have hnb44:=NB248_247.out
        have hnc44:=NB247_248.out
        have hnb45:=NB248_249.out
        have hnc45:=NB249_248.out
        have hcz46_0 : wc.cell? ⟨gb248,0,none⟩ = some (.int .i64 a1_0):=(kC BK248.out 0).trans rfl
        have hcz46_1 : wc.cell? ⟨gb248,1,none⟩ = some (.int .i64 a1_1):=(kC BK248.out 1).trans rfl
        have hcz46_2 : wc.cell? ⟨gb248,2,none⟩ = some (.int .i64 a1_2):=(kC BK248.out 2).trans rfl
        have hcz46_3 : wc.cell? ⟨gb248,3,none⟩ = some (.int .i64 a1_3):=(kC BK248.out 3).trans rfl
        have hfz46_0:=blk_frozen BK248.out 0
        have hfz46_1:=blk_frozen BK248.out 1
        have hfz46_2:=blk_frozen BK248.out 2
        have hfz46_3:=blk_frozen BK248.out 3
        have hnb47:=NB247_249.out
        have hnc47:=NB249_247.out
        have hcz48_0 : wc.cell? ⟨gb247,0,none⟩ = some (.int .i64 x248000_24):=(kC BK247.out 0).trans rfl
        have hcz48_1 : wc.cell? ⟨gb247,1,none⟩ = some (.int .i64 a0_1):=(kC BK247.out 1).trans rfl
        have hcz48_2 : wc.cell? ⟨gb247,2,none⟩ = some (.int .i64 a0_2):=(kC BK247.out 2).trans rfl
        have hcz48_3 : wc.cell? ⟨gb247,3,none⟩ = some (.int .i64 a0_3):=(kC BK247.out 3).trans rfl
        have hfz48_0:=blk_frozen BK247.out 0
        have hfz48_1:=blk_frozen BK247.out 1
        have hfz48_2:=blk_frozen BK247.out 2
        have hfz48_3:=blk_frozen BK247.out 3
        go_wp2
        go_meet
        case rel => exact ⟨_,(a1_1),H',⟨by have:=HJ2.out;have:=HJ24.out;first|omega|exact Nat.le_refl _⟩,⟨by (with_reducible repeat (first|refine kN ?_ _|refine kD ?_|refine kA ?_ _));refine blk_put (cs:=#[.int .i64 x248000_24,.int .i64 a0_1,.int .i64 a0_2,.int .i64 a0_3]) ?_ 1 _ rfl;(with_reducible repeat (first|refine kN ?_ _|refine kD ?_|refine kA ?_ _));exact BK247.out⟩,⟨by (with_reducible repeat (first|refine kN ?_ _|refine kD ?_|refine kA ?_ _));refine blk_far ?_ NB248_247.out _;(with_reducible repeat (first|refine kN ?_ _|refine kD ?_|refine kA ?_ _));exact BK248.out⟩,⟨by (with_reducible repeat (first|refine kN ?_ _|refine kD ?_|refine kA ?_ _));refine blk_far ?_ NB249_247.out _;(with_reducible repeat (first|refine kN ?_ _|refine kD ?_|refine kA ?_ _));exact BK249.out⟩,⟨by repeat (first|(with_reducible first|exact HB.out|apply bA|apply bN|apply bD|refine bS ?_ GE247.out|refine bS ?_ GE248.out|refine bS ?_ GE249.out)|exact HB.out)⟩⟩
       ·rw [if_neg c43] at H
        have c43b0 : decide (a0_1 < a1_1) = false:=decide_eq_false c43
        clear c43
        (first|rw [c43b0]|(simp only [i64_w,i32_w];rw [c43b0])|skip)
        have H':=Ak H
        clear H
        go_wp2
        go_meet
        case rel => exact ⟨_,(a0_1),H',⟨by have:=HJ2.out;have:=HJ24.out;first|omega|exact Nat.le_refl _⟩,⟨by (with_reducible repeat (first|refine kN ?_ _|refine kD ?_|refine kA ?_ _));exact BK247.out⟩,⟨by (with_reducible repeat (first|refine kN ?_ _|refine kD ?_|refine kA ?_ _));exact BK248.out⟩,⟨by (with_reducible repeat (first|refine kN ?_ _|refine kD ?_|refine kA ?_ _));exact BK249.out⟩,⟨by repeat (first|(with_reducible first|exact HB.out|apply bA|apply bN|apply bD|refine bS ?_ GE247.out|refine bS ?_ GE248.out|refine bS ?_ GE249.out)|exact HB.out)⟩⟩
      case rest =>
       clear HC37
       try clear c1
       try clear c2
       try clear p2
       try clear c3
       try clear c4
       try clear c5
       try clear c8
       try clear c10
       try clear c11
       try clear c14
       try clear c17
       try clear c18
       try clear c21
       try clear c22
       try clear c23
       try clear c26
       try clear c27
       try clear c29
       try clear c31
       try clear c31b0
       try clear c32
       try clear c33
       try clear c35
       try clear c38
       try clear c39
       try clear c41
       try clear c43
       try clear c43b0
       try clear c44
       try clear c45
       try clear c46
       try clear c47
       try clear hcz12_0
       try clear hcz12_1
       try clear hcz12_2
       try clear hcz12_3
       try clear hcz15_0
       try clear hcz15_1
       try clear hcz15_2
       try clear hcz15_3
       try clear hcz19_0
       try clear hcz19_1
       try clear hcz19_2
       try clear hcz19_3
       try clear hcz24_0
       try clear hcz24_1
       try clear hcz24_2
       try clear hcz24_3
       try clear hcz28_0
       try clear hcz28_1
       try clear hcz28_2
       try clear hcz28_3
       try clear hcz30_0
       try clear hcz30_1
       try clear hcz30_2
       try clear hcz30_3
       try clear hcz34_0
       try clear hcz34_1
       try clear hcz34_2
       try clear hcz34_3
       try clear hcz36_0
       try clear hcz36_1
       try clear hcz36_2
       try clear hcz36_3
       try clear hcz40_0
       try clear hcz40_1
       try clear hcz40_2
       try clear hcz40_3
       try clear hcz42_0
       try clear hcz42_1
       try clear hcz42_2
       try clear hcz42_3
       try clear hcz46_0
       try clear hcz46_1
       try clear hcz46_2
       try clear hcz46_3
       try clear hcz48_0
       try clear hcz48_1
       try clear hcz48_2
       try clear hcz48_3
       try clear hfz12_0
       try clear hfz12_1
       try clear hfz12_2
       try clear hfz12_3
       try clear hfz15_0
       try clear hfz15_1
       try clear hfz15_2
       try clear hfz15_3
       try clear hfz19_0
       try clear hfz19_1
       try clear hfz19_2
       try clear hfz19_3
       try clear hfz24_0
       try clear hfz24_1
       try clear hfz24_2
       try clear hfz24_3
       try clear hfz28_0
       try clear hfz28_1
       try clear hfz28_2
       try clear hfz28_3
       try clear hfz30_0
       try clear hfz30_1
       try clear hfz30_2
       try clear hfz30_3
       try clear hfz34_0
       try clear hfz34_1
       try clear hfz34_2
       try clear hfz34_3
       try clear hfz36_0
       try clear hfz36_1
       try clear hfz36_2
       try clear hfz36_3
       try clear hfz40_0
       try clear hfz40_1
       try clear hfz40_2
       try clear hfz40_3
       try clear hfz42_0
       try clear hfz42_1
       try clear hfz42_2
       try clear hfz42_3
       try clear hfz46_0
       try clear hfz46_1
       try clear hfz46_2
       try clear hfz46_3
       try clear hfz48_0
       try clear hfz48_1
       try clear hfz48_2
       try clear hfz48_3
       try clear p2
       obtain ⟨kq,x248001_36,HA,HJ36,BK247,BK248,BK249,HB⟩:=hcut
       cases kq with
       | zero => exact absurd HA.out (by simp [gazetteerref09_Union.j2])
       | succ kj36 =>
        have H:=HA.out
        clear HA
        simp only [gazetteerref09_Union.j2] at H
        by_cases c49 : a1_2 < a0_2
        ·rw [if_pos c49] at H
         have c49b0 : decide (a1_2 < a0_2) = true:=decide_eq_true c49
         clear c49
         by_cases c50 : a1_3 > a0_3
         ·rw [if_pos c50] at H
          have c50b0 : decide (a0_3 < a1_3) = true:=decide_eq_true c50
          clear c50
          simp only [Option.some.injEq,Prod.mk.injEq] at H
          obtain ⟨rfl,rfl,rfl,rfl⟩:=H
          have hnb51:=NB248_247.out
          have hnc51:=NB247_248.out
          have hnb52:=NB248_249.out
          have hnc52:=NB249_248.out
          have hcz53_0 : wc.cell? ⟨gb248,0,none⟩ = some (.int .i64 a1_0):=(kC BK248.out 0).trans rfl
          have hcz53_1 : wc.cell? ⟨gb248,1,none⟩ = some (.int .i64 a1_1):=(kC BK248.out 1).trans rfl
          have hcz53_2 : wc.cell? ⟨gb248,2,none⟩ = some (.int .i64 a1_2):=(kC BK248.out 2).trans rfl
          have hcz53_3 : wc.cell? ⟨gb248,3,none⟩ = some (.int .i64 a1_3):=(kC BK248.out 3).trans rfl
          have hfz53_0:=blk_frozen BK248.out 0
          have hfz53_1:=blk_frozen BK248.out 1
          have hfz53_2:=blk_frozen BK248.out 2
          have hfz53_3:=blk_frozen BK248.out 3
          have hnb54:=NB247_249.out
          have hnc54:=NB249_247.out
          have hcz55_0 : wc.cell? ⟨gb247,0,none⟩ = some (.int .i64 x248000_24):=(kC BK247.out 0).trans rfl
          have hcz55_1 : wc.cell? ⟨gb247,1,none⟩ = some (.int .i64 x248001_36):=(kC BK247.out 1).trans rfl
          have hcz55_2 : wc.cell? ⟨gb247,2,none⟩ = some (.int .i64 a0_2):=(kC BK247.out 2).trans rfl
          have hcz55_3 : wc.cell? ⟨gb247,3,none⟩ = some (.int .i64 a0_3):=(kC BK247.out 3).trans rfl
          have hfz55_0:=blk_frozen BK247.out 0
          have hfz55_1:=blk_frozen BK247.out 1
          have hfz55_2:=blk_frozen BK247.out 2
          have hfz55_3:=blk_frozen BK247.out 3
          have hcz56_0 : wc.cell? ⟨gb249,0,none⟩ = some (.int .i64 0):=(kC BK249.out 0).trans rfl
          have hcz56_1 : wc.cell? ⟨gb249,1,none⟩ = some (.int .i64 0):=(kC BK249.out 1).trans rfl
          have hcz56_2 : wc.cell? ⟨gb249,2,none⟩ = some (.int .i64 0):=(kC BK249.out 2).trans rfl
          have hcz56_3 : wc.cell? ⟨gb249,3,none⟩ = some (.int .i64 0):=(kC BK249.out 3).trans rfl
          have hfz56_0:=blk_frozen BK249.out 0
          have hfz56_1:=blk_frozen BK249.out 1
          have hfz56_2:=blk_frozen BK249.out 2
          have hfz56_3:=blk_frozen BK249.out 3
          go_wp2
          refine bodyPost_ret (results_cell_row rfl _ _ gb249 35 #[.int .i64 x248000_24,.int .i64 x248001_36,.int .i64 a1_2,.int .i64 a1_3] (0,0) _ rfl (by (with_reducible repeat (first|refine kN ?_ _|refine kD ?_|refine kA ?_ _));refine blk_put (cs:=#[.int .i64 x248000_24,.int .i64 x248001_36,.int .i64 a1_2,.int .i64 0]) ?_ 3 _ rfl;(with_reducible repeat (first|refine kN ?_ _|refine kD ?_|refine kA ?_ _));refine blk_put (cs:=#[.int .i64 x248000_24,.int .i64 x248001_36,.int .i64 0,.int .i64 0]) ?_ 2 _ rfl;(with_reducible repeat (first|refine kN ?_ _|refine kD ?_|refine kA ?_ _));refine blk_put (cs:=#[.int .i64 x248000_24,.int .i64 0,.int .i64 0,.int .i64 0]) ?_ 1 _ rfl;(with_reducible repeat (first|refine kN ?_ _|refine kD ?_|refine kA ?_ _));refine blk_put (cs:=#[.int .i64 0,.int .i64 0,.int .i64 0,.int .i64 0]) ?_ 0 _ rfl;(with_reducible repeat (first|refine kN ?_ _|refine kD ?_|refine kA ?_ _));refine blk_far ?_ NB249_247.out _;(with_reducible repeat (first|refine kN ?_ _|refine kD ?_|refine kA ?_ _));refine blk_far ?_ NB249_247.out _;(with_reducible repeat (first|refine kN ?_ _|refine kD ?_|refine kA ?_ _));exact BK249.out) Try.underlying35 rfl (by kernel_rfl)) rfl ?_
          exact ⟨by first|rfl|(simp [errW_none,errW_some] <;> rfl)|(simp [*,errW_none,errW_some] <;> rfl),by repeat (first|(with_reducible first|exact HB.out|apply bA|apply bN|apply bD|refine bS ?_ GE247.out|refine bS ?_ GE248.out|refine bS ?_ GE249.out)|exact HB.out)⟩
         ·rw [if_neg c50] at H
          have c50b0 : decide (a0_3 < a1_3) = false:=decide_eq_false c50
          clear c50
          simp only [Option.some.injEq,Prod.mk.injEq] at H
          obtain ⟨rfl,rfl,rfl,rfl⟩:=H
          have hnb57:=NB248_247.out
          have hnc57:=NB247_248.out
          have hnb58:=NB248_249.out
          have hnc58:=NB249_248.out
          have hcz59_0 : wc.cell? ⟨gb248,0,none⟩ = some (.int .i64 a1_0):=(kC BK248.out 0).trans rfl
          have hcz59_1 : wc.cell? ⟨gb248,1,none⟩ = some (.int .i64 a1_1):=(kC BK248.out 1).trans rfl
          have hcz59_2 : wc.cell? ⟨gb248,2,none⟩ = some (.int .i64 a1_2):=(kC BK248.out 2).trans rfl
          have hcz59_3 : wc.cell? ⟨gb248,3,none⟩ = some (.int .i64 a1_3):=(kC BK248.out 3).trans rfl
          have hfz59_0:=blk_frozen BK248.out 0
          have hfz59_1:=blk_frozen BK248.out 1
          have hfz59_2:=blk_frozen BK248.out 2
          have hfz59_3:=blk_frozen BK248.out 3
          have hnb60:=NB247_249.out
          have hnc60:=NB249_247.out
          have hcz61_0 : wc.cell? ⟨gb247,0,none⟩ = some (.int .i64 x248000_24):=(kC BK247.out 0).trans rfl
          have hcz61_1 : wc.cell? ⟨gb247,1,none⟩ = some (.int .i64 x248001_36):=(kC BK247.out 1).trans rfl
          have hcz61_2 : wc.cell? ⟨gb247,2,none⟩ = some (.int .i64 a0_2):=(kC BK247.out 2).trans rfl
          have hcz61_3 : wc.cell? ⟨gb247,3,none⟩ = some (.int .i64 a0_3):=(kC BK247.out 3).trans rfl
          have hfz61_0:=blk_frozen BK247.out 0
          have hfz61_1:=blk_frozen BK247.out 1
          have hfz61_2:=blk_frozen BK247.out 2
          have hfz61_3:=blk_frozen BK247.out 3
          have hcz62_0 : wc.cell? ⟨gb249,0,none⟩ = some (.int .i64 0):=(kC BK249.out 0).trans rfl
          have hcz62_1 : wc.cell? ⟨gb249,1,none⟩ = some (.int .i64 0):=(kC BK249.out 1).trans rfl
          have hcz62_2 : wc.cell? ⟨gb249,2,none⟩ = some (.int .i64 0):=(kC BK249.out 2).trans rfl
          have hcz62_3 : wc.cell? ⟨gb249,3,none⟩ = some (.int .i64 0):=(kC BK249.out 3).trans rfl
          have hfz62_0:=blk_frozen BK249.out 0
          have hfz62_1:=blk_frozen BK249.out 1
          have hfz62_2:=blk_frozen BK249.out 2
          have hfz62_3:=blk_frozen BK249.out 3
          go_wp2
          refine bodyPost_ret (results_cell_row rfl _ _ gb249 35 #[.int .i64 x248000_24,.int .i64 x248001_36,.int .i64 a1_2,.int .i64 a0_3] (0,0) _ rfl (by (with_reducible repeat (first|refine kN ?_ _|refine kD ?_|refine kA ?_ _));refine blk_put (cs:=#[.int .i64 x248000_24,.int .i64 x248001_36,.int .i64 a1_2,.int .i64 0]) ?_ 3 _ rfl;(with_reducible repeat (first|refine kN ?_ _|refine kD ?_|refine kA ?_ _));refine blk_put (cs:=#[.int .i64 x248000_24,.int .i64 x248001_36,.int .i64 0,.int .i64 0]) ?_ 2 _ rfl;(with_reducible repeat (first|refine kN ?_ _|refine kD ?_|refine kA ?_ _));refine blk_put (cs:=#[.int .i64 x248000_24,.int .i64 0,.int .i64 0,.int .i64 0]) ?_ 1 _ rfl;(with_reducible repeat (first|refine kN ?_ _|refine kD ?_|refine kA ?_ _));refine blk_put (cs:=#[.int .i64 0,.int .i64 0,.int .i64 0,.int .i64 0]) ?_ 0 _ rfl;(with_reducible repeat (first|refine kN ?_ _|refine kD ?_|refine kA ?_ _));refine blk_far ?_ NB249_247.out _;(with_reducible repeat (first|refine kN ?_ _|refine kD ?_|refine kA ?_ _));exact BK249.out) Try.underlying35 rfl (by kernel_rfl)) rfl ?_
          exact ⟨by first|rfl|(simp [errW_none,errW_some] <;> rfl)|(simp [*,errW_none,errW_some] <;> rfl),by repeat (first|(with_reducible first|exact HB.out|apply bA|apply bN|apply bD|refine bS ?_ GE247.out|refine bS ?_ GE248.out|refine bS ?_ GE249.out)|exact HB.out)⟩
        ·rw [if_neg c49] at H
         have c49b0 : decide (a1_2 < a0_2) = false:=decide_eq_false c49
         clear c49
         by_cases c63 : a1_3 > a0_3
         ·rw [if_pos c63] at H
          have c63b0 : decide (a0_3 < a1_3) = true:=decide_eq_true c63
          clear c63
          simp only [Option.some.injEq,Prod.mk.injEq] at H
          obtain ⟨rfl,rfl,rfl,rfl⟩:=H
          have hnb64:=NB248_247.out
          have hnc64:=NB247_248.out
          have hnb65:=NB248_249.out
          have hnc65:=NB249_248.out
          have hcz66_0 : wc.cell? ⟨gb248,0,none⟩ = some (.int .i64 a1_0):=(kC BK248.out 0).trans rfl
          have hcz66_1 : wc.cell? ⟨gb248,1,none⟩ = some (.int .i64 a1_1):=(kC BK248.out 1).trans rfl
          have hcz66_2 : wc.cell? ⟨gb248,2,none⟩ = some (.int .i64 a1_2):=(kC BK248.out 2).trans rfl
          have hcz66_3 : wc.cell? ⟨gb248,3,none⟩ = some (.int .i64 a1_3):=(kC BK248.out 3).trans rfl
          have hfz66_0:=blk_frozen BK248.out 0
          have hfz66_1:=blk_frozen BK248.out 1
          have hfz66_2:=blk_frozen BK248.out 2
          have hfz66_3:=blk_frozen BK248.out 3
          have hnb67:=NB247_249.out
          have hnc67:=NB249_247.out
          have hcz68_0 : wc.cell? ⟨gb247,0,none⟩ = some (.int .i64 x248000_24):=(kC BK247.out 0).trans rfl
          have hcz68_1 : wc.cell? ⟨gb247,1,none⟩ = some (.int .i64 x248001_36):=(kC BK247.out 1).trans rfl
          have hcz68_2 : wc.cell? ⟨gb247,2,none⟩ = some (.int .i64 a0_2):=(kC BK247.out 2).trans rfl
          have hcz68_3 : wc.cell? ⟨gb247,3,none⟩ = some (.int .i64 a0_3):=(kC BK247.out 3).trans rfl
          have hfz68_0:=blk_frozen BK247.out 0
          have hfz68_1:=blk_frozen BK247.out 1
          have hfz68_2:=blk_frozen BK247.out 2
          have hfz68_3:=blk_frozen BK247.out 3
          have hcz69_0 : wc.cell? ⟨gb249,0,none⟩ = some (.int .i64 0):=(kC BK249.out 0).trans rfl
          have hcz69_1 : wc.cell? ⟨gb249,1,none⟩ = some (.int .i64 0):=(kC BK249.out 1).trans rfl
          have hcz69_2 : wc.cell? ⟨gb249,2,none⟩ = some (.int .i64 0):=(kC BK249.out 2).trans rfl
          have hcz69_3 : wc.cell? ⟨gb249,3,none⟩ = some (.int .i64 0):=(kC BK249.out 3).trans rfl
          have hfz69_0:=blk_frozen BK249.out 0
          have hfz69_1:=blk_frozen BK249.out 1
          have hfz69_2:=blk_frozen BK249.out 2
          have hfz69_3:=blk_frozen BK249.out 3
          go_wp2
          refine bodyPost_ret (results_cell_row rfl _ _ gb249 35 #[.int .i64 x248000_24,.int .i64 x248001_36,.int .i64 a0_2,.int .i64 a1_3] (0,0) _ rfl (by (with_reducible repeat (first|refine kN ?_ _|refine kD ?_|refine kA ?_ _));refine blk_put (cs:=#[.int .i64 x248000_24,.int .i64 x248001_36,.int .i64 a0_2,.int .i64 0]) ?_ 3 _ rfl;(with_reducible repeat (first|refine kN ?_ _|refine kD ?_|refine kA ?_ _));refine blk_put (cs:=#[.int .i64 x248000_24,.int .i64 x248001_36,.int .i64 0,.int .i64 0]) ?_ 2 _ rfl;(with_reducible repeat (first|refine kN ?_ _|refine kD ?_|refine kA ?_ _));refine blk_put (cs:=#[.int .i64 x248000_24,.int .i64 0,.int .i64 0,.int .i64 0]) ?_ 1 _ rfl;(with_reducible repeat (first|refine kN ?_ _|refine kD ?_|refine kA ?_ _));refine blk_put (cs:=#[.int .i64 0,.int .i64 0,.int .i64 0,.int .i64 0]) ?_ 0 _ rfl;(with_reducible repeat (first|refine kN ?_ _|refine kD ?_|refine kA ?_ _));refine blk_far ?_ NB249_247.out _;(with_reducible repeat (first|refine kN ?_ _|refine kD ?_|refine kA ?_ _));exact BK249.out) Try.underlying35 rfl (by kernel_rfl)) rfl ?_
          exact ⟨by first|rfl|(simp [errW_none,errW_some] <;> rfl)|(simp [*,errW_none,errW_some] <;> rfl),by repeat (first|(with_reducible first|exact HB.out|apply bA|apply bN|apply bD|refine bS ?_ GE247.out|refine bS ?_ GE248.out|refine bS ?_ GE249.out)|exact HB.out)⟩
         ·rw [if_neg c63] at H
          have c63b0 : decide (a0_3 < a1_3) = false:=decide_eq_false c63
          clear c63
          simp only [Option.some.injEq,Prod.mk.injEq] at H
          obtain ⟨rfl,rfl,rfl,rfl⟩:=H
          have hnb70:=NB248_247.out
          have hnc70:=NB247_248.out
          have hnb71:=NB248_249.out
          have hnc71:=NB249_248.out
          have hcz72_0 : wc.cell? ⟨gb248,0,none⟩ = some (.int .i64 a1_0):=(kC BK248.out 0).trans rfl
          have hcz72_1 : wc.cell? ⟨gb248,1,none⟩ = some (.int .i64 a1_1):=(kC BK248.out 1).trans rfl
          have hcz72_2 : wc.cell? ⟨gb248,2,none⟩ = some (.int .i64 a1_2):=(kC BK248.out 2).trans rfl
          have hcz72_3 : wc.cell? ⟨gb248,3,none⟩ = some (.int .i64 a1_3):=(kC BK248.out 3).trans rfl
          have hfz72_0:=blk_frozen BK248.out 0
          have hfz72_1:=blk_frozen BK248.out 1
          have hfz72_2:=blk_frozen BK248.out 2
          have hfz72_3:=blk_frozen BK248.out 3
          have hnb73:=NB247_249.out
          have hnc73:=NB249_247.out
          have hcz74_0 : wc.cell? ⟨gb247,0,none⟩ = some (.int .i64 x248000_24):=(kC BK247.out 0).trans rfl
          have hcz74_1 : wc.cell? ⟨gb247,1,none⟩ = some (.int .i64 x248001_36):=(kC BK247.out 1).trans rfl
          have hcz74_2 : wc.cell? ⟨gb247,2,none⟩ = some (.int .i64 a0_2):=(kC BK247.out 2).trans rfl
          have hcz74_3 : wc.cell? ⟨gb247,3,none⟩ = some (.int .i64 a0_3):=(kC BK247.out 3).trans rfl
          have hfz74_0:=blk_frozen BK247.out 0
          have hfz74_1:=blk_frozen BK247.out 1
          have hfz74_2:=blk_frozen BK247.out 2
          have hfz74_3:=blk_frozen BK247.out 3
          have hcz75_0 : wc.cell? ⟨gb249,0,none⟩ = some (.int .i64 0):=(kC BK249.out 0).trans rfl
          have hcz75_1 : wc.cell? ⟨gb249,1,none⟩ = some (.int .i64 0):=(kC BK249.out 1).trans rfl
          have hcz75_2 : wc.cell? ⟨gb249,2,none⟩ = some (.int .i64 0):=(kC BK249.out 2).trans rfl
          have hcz75_3 : wc.cell? ⟨gb249,3,none⟩ = some (.int .i64 0):=(kC BK249.out 3).trans rfl
          have hfz75_0:=blk_frozen BK249.out 0
          have hfz75_1:=blk_frozen BK249.out 1
          have hfz75_2:=blk_frozen BK249.out 2
          have hfz75_3:=blk_frozen BK249.out 3
          go_wp2
          refine bodyPost_ret (results_cell_row rfl _ _ gb249 35 #[.int .i64 x248000_24,.int .i64 x248001_36,.int .i64 a0_2,.int .i64 a0_3] (0,0) _ rfl (by (with_reducible repeat (first|refine kN ?_ _|refine kD ?_|refine kA ?_ _));refine blk_put (cs:=#[.int .i64 x248000_24,.int .i64 x248001_36,.int .i64 a0_2,.int .i64 0]) ?_ 3 _ rfl;(with_reducible repeat (first|refine kN ?_ _|refine kD ?_|refine kA ?_ _));refine blk_put (cs:=#[.int .i64 x248000_24,.int .i64 x248001_36,.int .i64 0,.int .i64 0]) ?_ 2 _ rfl;(with_reducible repeat (first|refine kN ?_ _|refine kD ?_|refine kA ?_ _));refine blk_put (cs:=#[.int .i64 x248000_24,.int .i64 0,.int .i64 0,.int .i64 0]) ?_ 1 _ rfl;(with_reducible repeat (first|refine kN ?_ _|refine kD ?_|refine kA ?_ _));refine blk_put (cs:=#[.int .i64 0,.int .i64 0,.int .i64 0,.int .i64 0]) ?_ 0 _ rfl;(with_reducible repeat (first|refine kN ?_ _|refine kD ?_|refine kA ?_ _));exact BK249.out) Try.underlying35 rfl (by kernel_rfl)) rfl ?_
          exact ⟨by first|rfl|(simp [errW_none,errW_some] <;> rfl)|(simp [*,errW_none,errW_some] <;> rfl),by repeat (first|(with_reducible first|exact HB.out|apply bA|apply bN|apply bD|refine bS ?_ GE247.out|refine bS ?_ GE248.out|refine bS ?_ GE249.out)|exact HB.out)⟩
end Go.Proofs.Ythlhmijgbjcloaa.A
end
