-- By pr.py, a program of this session's, over the kit's print; with contracts of the session's own. Lean checks it.
import Derived.Test.YtfggjefncnhikaaAx0
import Derived.Test.YtfggjefncnhikaaAx1
import Derived.Test.YtfggjefncnhikaaAx4
import Derived.Test.YtfggjefncnhikaaAx7
import Derived.Test.YtfggjefncnhikaaAx8
namespace Go.Proofs.Ytfggjefncnhikaa.A
open Go.RowKit Go.Proofs.YtfggjefncnhikaaW.PrintWords Go.Proofs.YtfggjefncnhikaaW.PrintLast Go.Proofs.YtfggjefncnhikaaW.PrintMore
attribute [local go_sem] max2_int min2_int max_two min_two max_three min_three max_four min_four   -- for this text's walks alone
set_option linter.unusedVariables false
set_option linter.unusedSimpArgs false

/-! ### gazetteerlaw17_VisionCounts: function 3 -/
def gazetteerlaw17_VisionCounts.j0 : Nat → Bool → Int → Bool → Int → List (S44) → Int → Bool → Int → Int → Int → Int → Int → Int → Int → Int → Int → Option (Bool)
  | 0, _, _, _, _, _, _, _, _, _, _, _, _, _, _, _, _ => none
  | k + 1, x8, x9, x78, x156000, x156001, x157000, x157001, x157002, x158000, x158001, x158002, x158003, x158004, x158005, x158006, x158007 => if x78 = true then (some false) else ((gazetteerref10_Right.f x158000 x158001 x158002 x158003 x158004 x158005 x158006 x158007).bind fun t188 => (if t188 = true then (if x9 = 0 then ((gazetteerref17_Sees.f k x156000 x156001 x157000 x157001 x157002 x158000 x158001 x158002 x158003 x158004 x158005 x158006 x158007).bind fun t189 => (some (x8 == t189))) else (some false)) else (if x8 = true then (some false) else (some (x9 == 200)))))
def gazetteerlaw17_VisionCounts.f (k : Nat) (a0_0 : Int) (l0_1 : List (S44)) (a1_0 : Int) (a1_1 : Bool) (a1_2 : Int) (a2_0 : Int) (a2_1 : Int) (a2_2 : Int) (a2_3 : Int) (a2_4 : Int) (a2_5 : Int) (a2_6 : Int) (a2_7 : Int) : Option (Bool) := (gazetteerlaw17_wakes.f).bind fun t158 => (if t158 = true then (if (l0_1.length : Int) > 500 then (some true) else ((gazetteerlaw17_copied.f a0_0 l0_1).bind fun bt159 => ((vision_Check.f bt159.1 bt159.2).bind fun t163 => ((gazetteerlaw17_copied.f a0_0 l0_1).bind fun bt164 => ((vision_Sees.f bt164.1 bt164.2 a1_0 a1_1 a1_2 a2_0 a2_1 a2_2 a2_3 a2_4 a2_5 a2_6 a2_7).bind fun bt168 => ((gazetteerref17_Right.f k a0_0 l0_1).bind fun t170 => (if t170 = true then (if t163 = 0 then ((gazetteerlaw17_copied.f a0_0 l0_1).bind fun bt176 => ((vision_Counts.f bt176.1 bt176.2 a1_0 a1_1 a1_2 a2_1).bind fun t180 => ((gazetteerref17_Counts.f k a0_0 l0_1 a1_0 a1_1 a1_2 a2_1).bind fun t181 => (if (t180 != t181) = true then (gazetteerlaw17_VisionCounts.j0 k bt168.1 bt168.2 true a0_0 l0_1 a1_0 a1_1 a1_2 a2_0 a2_1 a2_2 a2_3 a2_4 a2_5 a2_6 a2_7) else ((gazetteerlaw17_copied.f a0_0 l0_1).bind fun bt182 => ((vision_Counts.f bt182.1 bt182.2 a1_0 a1_1 a1_2 a2_2).bind fun t186 => ((gazetteerref17_Counts.f k a0_0 l0_1 a1_0 a1_1 a1_2 a2_2).bind fun t187 => (gazetteerlaw17_VisionCounts.j0 k bt168.1 bt168.2 (t186 != t187) a0_0 l0_1 a1_0 a1_1 a1_2 a2_0 a2_1 a2_2 a2_3 a2_4 a2_5 a2_6 a2_7)))))))) else (gazetteerlaw17_VisionCounts.j0 k bt168.1 bt168.2 true a0_0 l0_1 a1_0 a1_1 a1_2 a2_0 a2_1 a2_2 a2_3 a2_4 a2_5 a2_6 a2_7)) else (if t163 = 270 then (if bt168.1 = true then (some false) else (if bt168.2 = 270 then ((gazetteerlaw17_copied.f a0_0 l0_1).bind fun bt171 => ((vision_Counts.f bt171.1 bt171.2 a1_0 a1_1 a1_2 a2_1).bind fun t175 => (some (!t175)))) else (some false))) else (some false))))))))) else (some false))
theorem gazetteerlaw17_VisionCounts.mono_l : ∀ k, (∀ y0 y1 y2 y3 y4 y5 y6 y7 y8 y9 y10 y11 y12 y13 y14 y15, LeO (gazetteerlaw17_VisionCounts.j0 k y0 y1 y2 y3 y4 y5 y6 y7 y8 y9 y10 y11 y12 y13 y14 y15) (gazetteerlaw17_VisionCounts.j0 (k + 1) y0 y1 y2 y3 y4 y5 y6 y7 y8 y9 y10 y11 y12 y13 y14 y15))
  | 0 => fun _ _ _ _ _ _ _ _ _ _ _ _ _ _ _ _ r h => by simp [gazetteerlaw17_VisionCounts.j0] at h
  | k + 1 => by
    have ih0 := gazetteerlaw17_VisionCounts.mono_l k
    · intro y0 y1 y2 y3 y4 y5 y6 y7 y8 y9 y10 y11 y12 y13 y14 y15
      unfold gazetteerlaw17_VisionCounts.j0
      repeat' first
      | (with_reducible exact ih0 _ _ _ _ _ _ _ _ _ _ _ _ _ _ _ _)
      | (with_reducible exact gazetteerref17_Counts.mono _ _ _ _ _ _ _)
      | (with_reducible exact gazetteerref17_Right.mono _ _ _)
      | (with_reducible exact gazetteerref17_Sees.mono _ _ _ _ _ _ _ _ _ _ _ _ _ _)
      | (with_reducible exact LeO.refl _)
      | (with_reducible exact LeO.none _)
      | (with_reducible refine LeO.ite ?_ ?_)
      | (with_reducible refine LeO.bind ?_ (fun _ => ?_))
      | exact ih0 _ _ _ _ _ _ _ _ _ _ _ _ _ _ _ _
      | exact gazetteerref17_Counts.mono _ _ _ _ _ _ _
      | exact gazetteerref17_Right.mono _ _ _
      | exact gazetteerref17_Sees.mono _ _ _ _ _ _ _ _ _ _ _ _ _ _
      | exact LeO.none _
      | refine LeO.ite ?_ ?_
      | refine LeO.bind ?_ (fun _ => ?_)
theorem gazetteerlaw17_VisionCounts.mono : ∀ a0 a1 a2 a3 a4 a5 a6 a7 a8 a9 a10 a11 a12 k, LeO (gazetteerlaw17_VisionCounts.f k a0 a1 a2 a3 a4 a5 a6 a7 a8 a9 a10 a11 a12) (gazetteerlaw17_VisionCounts.f (k + 1) a0 a1 a2 a3 a4 a5 a6 a7 a8 a9 a10 a11 a12) := by
  intro a0 a1 a2 a3 a4 a5 a6 a7 a8 a9 a10 a11 a12 k
  have ih0 := gazetteerlaw17_VisionCounts.mono_l k
  unfold gazetteerlaw17_VisionCounts.f
  repeat' first
      | (with_reducible exact ih0 _ _ _ _ _ _ _ _ _ _ _ _ _ _ _ _)
      | (with_reducible exact gazetteerref17_Counts.mono _ _ _ _ _ _ _)
      | (with_reducible exact gazetteerref17_Right.mono _ _ _)
      | (with_reducible exact gazetteerref17_Sees.mono _ _ _ _ _ _ _ _ _ _ _ _ _ _)
      | (with_reducible exact LeO.refl _)
      | (with_reducible exact LeO.none _)
      | (with_reducible refine LeO.ite ?_ ?_)
      | (with_reducible refine LeO.bind ?_ (fun _ => ?_))
      | exact ih0 _ _ _ _ _ _ _ _ _ _ _ _ _ _ _ _
      | exact gazetteerref17_Counts.mono _ _ _ _ _ _ _
      | exact gazetteerref17_Right.mono _ _ _
      | exact gazetteerref17_Sees.mono _ _ _ _ _ _ _ _ _ _ _ _ _ _
      | exact LeO.none _
      | refine LeO.ite ?_ ?_
      | refine LeO.bind ?_ (fun _ => ?_)
def gazetteerlaw17_VisionCounts.T6 : Bool × List (List Nat × List Nat) := (true, [([], []), ([0], [0]), ([], []), ([], []), ([1, 2, 3, 1], [1, 2, 3]), ([4], [4]), ([5], [5]), ([5], [5]), ([6, 4, 0, 1, 2, 3, 4, 5, 6], [6]), ([7, 8, 0, 1, 2, 3, 4, 5, 6, 7, 8], [7])])
def gazetteerlaw17_VisionCounts.B6 : List Nat := [0, 1, 0, 0, 15, 31, 63, 63, 127, 511]
theorem gazetteerlaw17_VisionCounts.tab6 : rtab .any (opsOf Try.f3 6) = gazetteerlaw17_VisionCounts.T6 := by kernel_rfl
theorem gazetteerlaw17_VisionCounts.bits6 : waitsOk gazetteerlaw17_VisionCounts.T6.2 gazetteerlaw17_VisionCounts.B6 = true := by kernel_rfl
def gazetteerlaw17_VisionCounts.T8 : Bool × List (List Nat × List Nat) := (true, [([], []), ([0], [0]), ([1], [1]), ([2], [2]), ([3, 2], [2, 3]), ([2, 4], [2, 4]), ([5, 2], [5]), ([6], [6]), ([7, 6], [6, 7]), ([6, 8], [6, 8]), ([9, 6], [9]), ([10], [10]), ([11, 10, 10], [10, 11]), ([10], [10]), ([10], [10]), ([14, 10], [10, 14]), ([12, 13, 15, 12, 10], [10, 12, 13, 15]), ([16, 10], [10, 16]), ([10, 17], [10, 17]), ([18, 16, 0, 1, 2, 3, 4, 5, 6, 7, 8, 9, 10, 11, 12, 13, 14, 15, 16, 17, 18], [18])])
def gazetteerlaw17_VisionCounts.B8 : List Nat := [0, 1, 3, 7, 15, 31, 63, 127, 255, 511, 1023, 2047, 4095, 2047, 2047, 18431, 65535, 131071, 262143, 524287]
theorem gazetteerlaw17_VisionCounts.tab8 : rtab .any (opsOf Try.f3 8) = gazetteerlaw17_VisionCounts.T8 := by kernel_rfl
theorem gazetteerlaw17_VisionCounts.bits8 : waitsOk gazetteerlaw17_VisionCounts.T8.2 gazetteerlaw17_VisionCounts.B8 = true := by kernel_rfl
def gazetteerlaw17_VisionCounts.T9 : Bool × List (List Nat × List Nat) := (true, [([], []), ([0], [0]), ([1], [1]), ([2], [2]), ([3, 2, 2], [2, 3]), ([2], [2]), ([2], [2]), ([6, 2], [2, 6]), ([4, 5, 7, 4, 2], [2, 4, 5, 7]), ([2], [2]), ([2], [2]), ([2], [2]), ([11, 2], [2, 11]), ([9, 10, 12, 8, 2], [2, 9, 10, 12]), ([8, 13, 2], [2, 8, 13]), ([2, 14], [2, 14]), ([15, 13], [15]), ([16], [16]), ([17, 16, 16], [16, 17]), ([16], [16]), ([16], [16]), ([20, 16], [16, 20]), ([18, 19, 21, 18, 16], [16, 18, 19, 21]), ([16], [16]), ([16], [16]), ([16], [16]), ([25, 16], [16, 25]), ([23, 24, 26, 22, 16], [16, 23, 24, 26]), ([22, 27, 16], [16, 22, 27]), ([16, 28], [16, 28])])
def gazetteerlaw17_VisionCounts.B9 : List Nat := [0, 1, 3, 7, 15, 7, 7, 71, 255, 7, 7, 7, 2055, 8191, 16383, 32767, 65535, 131071, 262143, 131071, 131071, 1179647, 4194303, 131071, 131071, 131071, 33685503, 134217727, 268435455, 536870911]
theorem gazetteerlaw17_VisionCounts.tab9 : rtab .any (opsOf Try.f3 9) = gazetteerlaw17_VisionCounts.T9 := by kernel_rfl
theorem gazetteerlaw17_VisionCounts.bits9 : waitsOk gazetteerlaw17_VisionCounts.T9.2 gazetteerlaw17_VisionCounts.B9 = true := by kernel_rfl
set_option maxHeartbeats 8000000 in
set_option maxRecDepth 100000 in
theorem gazetteerlaw17_VisionCounts.calls (k : Nat) (a0_0 : Int) (A0_1 : Option Addr) (c0_1 : Nat) (l0_1 : List (S44)) (a1_0 : Int) (a1_1 : Bool) (a1_2 : Int) (a2_0 : Int) (a2_1 : Int) (a2_2 : Int) (a2_3 : Int) (a2_4 : Int) (a2_5 : Int) (a2_6 : Int) (a2_7 : Int) (r : Bool) (w : World) (hr0_1 : Kd.C k44 w A0_1 l0_1.length l0_1) (hc0_1 : l0_1.length ≤ c0_1) (h : gazetteerlaw17_VisionCounts.f k a0_0 l0_1 a1_0 a1_1 a1_2 a2_0 a2_1 a2_2 a2_3 a2_4 a2_5 a2_6 a2_7 = some r) :
  Calls Try.prog 3 #[.agg #[.int .u64 a0_0,.slice A0_1 l0_1.length c0_1],.agg #[.int .u64 a1_0,.bool a1_1,.int .u64 a1_2],.agg #[.int .u32 a2_0,.int .u64 a2_1,.int .u64 a2_2,.int .i64 a2_3,.int .i64 a2_4,.int .i64 a2_5,.int .i64 a2_6,.int .i64 a2_7]] w fun e w' => e = .returned (.bool r)∧Below w.heap.size w w':=by
 have hu25:=Try.underlying25
 have hu27:=Try.underlying27
 have hu32:=Try.underlying32
 have HR0_1:=Ak hr0_1
 have HC0_1:=Ak hc0_1
 clear hr0_1 hc0_1
 have HB:=Ak (Below.refl w.heap.size w)
 have H : ((gazetteerlaw17_wakes.f).bind fun t158 => (if t158 = true then (if (l0_1.length : Int) > 500 then (some true) else ((gazetteerlaw17_copied.f a0_0 l0_1).bind fun bt159 => ((vision_Check.f bt159.1 bt159.2).bind fun t163 => ((gazetteerlaw17_copied.f a0_0 l0_1).bind fun bt164 => ((vision_Sees.f bt164.1 bt164.2 a1_0 a1_1 a1_2 a2_0 a2_1 a2_2 a2_3 a2_4 a2_5 a2_6 a2_7).bind fun bt168 => ((gazetteerref17_Right.f k a0_0 l0_1).bind fun t170 => (if t170 = true then (if t163 = 0 then ((gazetteerlaw17_copied.f a0_0 l0_1).bind fun bt176 => ((vision_Counts.f bt176.1 bt176.2 a1_0 a1_1 a1_2 a2_1).bind fun t180 => ((gazetteerref17_Counts.f k a0_0 l0_1 a1_0 a1_1 a1_2 a2_1).bind fun t181 => (if (t180 != t181) = true then (gazetteerlaw17_VisionCounts.j0 k bt168.1 bt168.2 true a0_0 l0_1 a1_0 a1_1 a1_2 a2_0 a2_1 a2_2 a2_3 a2_4 a2_5 a2_6 a2_7) else ((gazetteerlaw17_copied.f a0_0 l0_1).bind fun bt182 => ((vision_Counts.f bt182.1 bt182.2 a1_0 a1_1 a1_2 a2_2).bind fun t186 => ((gazetteerref17_Counts.f k a0_0 l0_1 a1_0 a1_1 a1_2 a2_2).bind fun t187 => (gazetteerlaw17_VisionCounts.j0 k bt168.1 bt168.2 (t186 != t187) a0_0 l0_1 a1_0 a1_1 a1_2 a2_0 a2_1 a2_2 a2_3 a2_4 a2_5 a2_6 a2_7)))))))) else (gazetteerlaw17_VisionCounts.j0 k bt168.1 bt168.2 true a0_0 l0_1 a1_0 a1_1 a1_2 a2_0 a2_1 a2_2 a2_3 a2_4 a2_5 a2_6 a2_7)) else (if t163 = 270 then (if bt168.1 = true then (some false) else (if bt168.2 = 270 then ((gazetteerlaw17_copied.f a0_0 l0_1).bind fun bt171 => ((vision_Counts.f bt171.1 bt171.2 a1_0 a1_1 a1_2 a2_1).bind fun t175 => (some (!t175)))) else (some false))) else (some false))))))))) else (some false))) = some r:=h
 clear h
 replace H:=Option.bind_eq_some_iff.mp H
 obtain ⟨t158,A40,H⟩:=H
 replace H : (if t158 = true then (if (l0_1.length : Int) > 500 then (some true) else ((gazetteerlaw17_copied.f a0_0 l0_1).bind fun bt159 => ((vision_Check.f bt159.1 bt159.2).bind fun t163 => ((gazetteerlaw17_copied.f a0_0 l0_1).bind fun bt164 => ((vision_Sees.f bt164.1 bt164.2 a1_0 a1_1 a1_2 a2_0 a2_1 a2_2 a2_3 a2_4 a2_5 a2_6 a2_7).bind fun bt168 => ((gazetteerref17_Right.f k a0_0 l0_1).bind fun t170 => (if t170 = true then (if t163 = 0 then ((gazetteerlaw17_copied.f a0_0 l0_1).bind fun bt176 => ((vision_Counts.f bt176.1 bt176.2 a1_0 a1_1 a1_2 a2_1).bind fun t180 => ((gazetteerref17_Counts.f k a0_0 l0_1 a1_0 a1_1 a1_2 a2_1).bind fun t181 => (if (t180 != t181) = true then (gazetteerlaw17_VisionCounts.j0 k bt168.1 bt168.2 true a0_0 l0_1 a1_0 a1_1 a1_2 a2_0 a2_1 a2_2 a2_3 a2_4 a2_5 a2_6 a2_7) else ((gazetteerlaw17_copied.f a0_0 l0_1).bind fun bt182 => ((vision_Counts.f bt182.1 bt182.2 a1_0 a1_1 a1_2 a2_2).bind fun t186 => ((gazetteerref17_Counts.f k a0_0 l0_1 a1_0 a1_1 a1_2 a2_2).bind fun t187 => (gazetteerlaw17_VisionCounts.j0 k bt168.1 bt168.2 (t186 != t187) a0_0 l0_1 a1_0 a1_1 a1_2 a2_0 a2_1 a2_2 a2_3 a2_4 a2_5 a2_6 a2_7)))))))) else (gazetteerlaw17_VisionCounts.j0 k bt168.1 bt168.2 true a0_0 l0_1 a1_0 a1_1 a1_2 a2_0 a2_1 a2_2 a2_3 a2_4 a2_5 a2_6 a2_7)) else (if t163 = 270 then (if bt168.1 = true then (some false) else (if bt168.2 = 270 then ((gazetteerlaw17_copied.f a0_0 l0_1).bind fun bt171 => ((vision_Counts.f bt171.1 bt171.2 a1_0 a1_1 a1_2 a2_1).bind fun t175 => (some (!t175)))) else (some false))) else (some false))))))))) else (some false)) = some r:=H
 have A4:=Ak A40
 clear A40
 by_cases c5 : t158 = true
 ·subst c5
  have H1 : (if (l0_1.length : Int) > 500 then (some true) else ((gazetteerlaw17_copied.f a0_0 l0_1).bind fun bt159 => ((vision_Check.f bt159.1 bt159.2).bind fun t163 => ((gazetteerlaw17_copied.f a0_0 l0_1).bind fun bt164 => ((vision_Sees.f bt164.1 bt164.2 a1_0 a1_1 a1_2 a2_0 a2_1 a2_2 a2_3 a2_4 a2_5 a2_6 a2_7).bind fun bt168 => ((gazetteerref17_Right.f k a0_0 l0_1).bind fun t170 => (if t170 = true then (if t163 = 0 then ((gazetteerlaw17_copied.f a0_0 l0_1).bind fun bt176 => ((vision_Counts.f bt176.1 bt176.2 a1_0 a1_1 a1_2 a2_1).bind fun t180 => ((gazetteerref17_Counts.f k a0_0 l0_1 a1_0 a1_1 a1_2 a2_1).bind fun t181 => (if (t180 != t181) = true then (gazetteerlaw17_VisionCounts.j0 k bt168.1 bt168.2 true a0_0 l0_1 a1_0 a1_1 a1_2 a2_0 a2_1 a2_2 a2_3 a2_4 a2_5 a2_6 a2_7) else ((gazetteerlaw17_copied.f a0_0 l0_1).bind fun bt182 => ((vision_Counts.f bt182.1 bt182.2 a1_0 a1_1 a1_2 a2_2).bind fun t186 => ((gazetteerref17_Counts.f k a0_0 l0_1 a1_0 a1_1 a1_2 a2_2).bind fun t187 => (gazetteerlaw17_VisionCounts.j0 k bt168.1 bt168.2 (t186 != t187) a0_0 l0_1 a1_0 a1_1 a1_2 a2_0 a2_1 a2_2 a2_3 a2_4 a2_5 a2_6 a2_7)))))))) else (gazetteerlaw17_VisionCounts.j0 k bt168.1 bt168.2 true a0_0 l0_1 a1_0 a1_1 a1_2 a2_0 a2_1 a2_2 a2_3 a2_4 a2_5 a2_6 a2_7)) else (if t163 = 270 then (if bt168.1 = true then (some false) else (if bt168.2 = 270 then ((gazetteerlaw17_copied.f a0_0 l0_1).bind fun bt171 => ((vision_Counts.f bt171.1 bt171.2 a1_0 a1_1 a1_2 a2_1).bind fun t175 => (some (!t175)))) else (some false))) else (some false))))))))) = some r:=by rw [if_pos rfl] at H;exact H
  clear H
  have H:=H1
  clear H1
  by_cases c6 : (l0_1.length : Int) > 500
  ·rw [if_pos c6] at H
   have c6b0 : decide (500 < (l0_1.length : Int)) = true:=decide_eq_true c6
   have c6b1 : decide (500 < l0_1.length) = true:=decide_eq_true (by omega)
   clear c6
   obtain rfl:=Option.some.inj H
   go_enter Try.func3,Try.ntmps3
   go_wp2_with (first|((with_reducible refine gate_dst (N:=3) rfl ?_);refine box_event ?hg (N:=3) ?hd (cs:=#[.int .u64 a0_0,.slice A0_1 l0_1.length c0_1]) (t:=25) ?hr ?_;(case hd => rfl);(case hg => rfl);(case hr => first|(go_simp;done)|(go_simp;rfl));intro gb155 hg w7 hbox hb;have n0_:=Ak (below_step (by repeat (first|(with_reducible first|exact HB.out|apply bA|apply bN|apply bD)|exact HB.out)) hb);have n1_:=Ak (hbox);have n2_:=Ak ((by rw [hg];exact (below_size (by repeat (first|(with_reducible first|exact HB.out|apply bA|apply bN|apply bD)|exact HB.out))) : w.heap.size ≤ gb155));have n3_:=Ak ((by rw [hg];exact (below_size (by repeat (first|(with_reducible first|exact HB.out|apply bA|apply bN|apply bD)|exact HB.out))) : w.heap.size ≤ gb155));clear HB;have HB:=n0_;have BK155:=n1_;have GW155:=n2_;have GE155:=n3_;clear n0_ n1_ n2_ n3_;clear hb hbox hg)|((with_reducible refine gate_dst (N:=4) rfl ?_);refine box_event ?hg (N:=4) ?hd (cs:=#[.int .u64 a1_0,.bool a1_1,.int .u64 a1_2]) (t:=27) ?hr ?_;(case hd => rfl);(case hg => rfl);(case hr => first|(go_simp;done)|(go_simp;rfl));intro gb156 hg w8 hbox hb;have n0_:=Ak (kB (g:=gb155) (o:=.cells #[.int .u64 a0_0,.slice A0_1 l0_1.length c0_1] 25 (0,0)) (by (with_reducible repeat (first|refine kN ?_ _|refine kD ?_|refine kA ?_ _));exact BK155.out) hb);have n1_:=Ak (below_step (by repeat (first|(with_reducible first|exact HB.out|apply bA|apply bN|apply bD|refine bS ?_ GE155.out)|exact HB.out)) hb);have n2_:=Ak (hbox);have n3_:=Ak ((by rw [hg];exact (below_size (by repeat (first|(with_reducible first|exact HB.out|apply bA|apply bN|apply bD|refine bS ?_ GE155.out)|exact HB.out))) : w.heap.size ≤ gb156));have n4_:=Ak ((by rw [hg];exact (below_size (by repeat (first|(with_reducible first|exact HB.out|apply bA|apply bN|apply bD|refine bS ?_ GE155.out)|exact HB.out))) : w.heap.size ≤ gb156));have n5_:=Ak ((by rw [hg];exact Nat.ne_of_lt (blk_lt (g:=gb155) (o:=.cells #[.int .u64 a0_0,.slice A0_1 l0_1.length c0_1] 25 (0,0)) (by (with_reducible repeat (first|refine kN ?_ _|refine kD ?_|refine kA ?_ _));exact BK155.out)) : gb155 ≠ gb156));have n6_:=Ak ((by rw [hg];exact Nat.ne_of_gt (blk_lt (g:=gb155) (o:=.cells #[.int .u64 a0_0,.slice A0_1 l0_1.length c0_1] 25 (0,0)) (by (with_reducible repeat (first|refine kN ?_ _|refine kD ?_|refine kA ?_ _));exact BK155.out)) : gb156 ≠ gb155));clear BK155;clear HB;have BK155:=n0_;have HB:=n1_;have BK156:=n2_;have GW156:=n3_;have GE156:=n4_;have NB155_156:=n5_;have NB156_155:=n6_;clear n0_ n1_ n2_ n3_ n4_ n5_ n6_;clear hb hbox hg)|((with_reducible refine gate_dst (N:=5) rfl ?_);refine box_event ?hg (N:=5) ?hd (cs:=#[.int .u32 a2_0,.int .u64 a2_1,.int .u64 a2_2,.int .i64 a2_3,.int .i64 a2_4,.int .i64 a2_5,.int .i64 a2_6,.int .i64 a2_7]) (t:=32) ?hr ?_;(case hd => rfl);(case hg => rfl);(case hr => first|(go_simp;done)|(go_simp;rfl));intro gb157 hg w9 hbox hb;have n0_:=Ak (kB (g:=gb155) (o:=.cells #[.int .u64 a0_0,.slice A0_1 l0_1.length c0_1] 25 (0,0)) (by (with_reducible repeat (first|refine kN ?_ _|refine kD ?_|refine kA ?_ _));exact BK155.out) hb);have n1_:=Ak (kB (g:=gb156) (o:=.cells #[.int .u64 a1_0,.bool a1_1,.int .u64 a1_2] 27 (0,0)) (by (with_reducible repeat (first|refine kN ?_ _|refine kD ?_|refine kA ?_ _));exact BK156.out) hb);have n2_:=Ak (below_step (by repeat (first|(with_reducible first|exact HB.out|apply bA|apply bN|apply bD|refine bS ?_ GE155.out|refine bS ?_ GE156.out)|exact HB.out)) hb);have n3_:=Ak (hbox);have n4_:=Ak ((by rw [hg];exact (below_size (by repeat (first|(with_reducible first|exact HB.out|apply bA|apply bN|apply bD|refine bS ?_ GE155.out|refine bS ?_ GE156.out)|exact HB.out))) : w.heap.size ≤ gb157));have n5_:=Ak ((by rw [hg];exact (below_size (by repeat (first|(with_reducible first|exact HB.out|apply bA|apply bN|apply bD|refine bS ?_ GE155.out|refine bS ?_ GE156.out)|exact HB.out))) : w.heap.size ≤ gb157));have n6_:=Ak ((by rw [hg];exact Nat.ne_of_lt (blk_lt (g:=gb155) (o:=.cells #[.int .u64 a0_0,.slice A0_1 l0_1.length c0_1] 25 (0,0)) (by (with_reducible repeat (first|refine kN ?_ _|refine kD ?_|refine kA ?_ _));exact BK155.out)) : gb155 ≠ gb157));have n7_:=Ak ((by rw [hg];exact Nat.ne_of_gt (blk_lt (g:=gb155) (o:=.cells #[.int .u64 a0_0,.slice A0_1 l0_1.length c0_1] 25 (0,0)) (by (with_reducible repeat (first|refine kN ?_ _|refine kD ?_|refine kA ?_ _));exact BK155.out)) : gb157 ≠ gb155));have n8_:=Ak ((by rw [hg];exact Nat.ne_of_lt (blk_lt (g:=gb156) (o:=.cells #[.int .u64 a1_0,.bool a1_1,.int .u64 a1_2] 27 (0,0)) (by (with_reducible repeat (first|refine kN ?_ _|refine kD ?_|refine kA ?_ _));exact BK156.out)) : gb156 ≠ gb157));have n9_:=Ak ((by rw [hg];exact Nat.ne_of_gt (blk_lt (g:=gb156) (o:=.cells #[.int .u64 a1_0,.bool a1_1,.int .u64 a1_2] 27 (0,0)) (by (with_reducible repeat (first|refine kN ?_ _|refine kD ?_|refine kA ?_ _));exact BK156.out)) : gb157 ≠ gb156));clear BK155;clear BK156;clear HB;have BK155:=n0_;have BK156:=n1_;have HB:=n2_;have BK157:=n3_;have GW157:=n4_;have GE157:=n5_;have NB155_157:=n6_;have NB157_155:=n7_;have NB156_157:=n8_;have NB157_156:=n9_;clear n0_ n1_ n2_ n3_ n4_ n5_ n6_ n7_ n8_ n9_;clear hb hbox hg)|((with_reducible refine gate_callee (f:=9) rfl ?_);refine goesL_ (some 10) rfl rfl Try.func9 (by kernel_rfl) rfl #[] rfl (by (try simp only [List.map_toArray,List.map_cons,List.map_nil]);first|done|rfl|(simp only [List.length_drop,List.length_take];rfl)) ?_;(with_reducible refine (gazetteerlaw17_wakes.calls  true _ A4.out).mono ?_);rintro e w10 ⟨rfl,hb⟩;refine ⟨_,rfl,?_⟩;have n0_:=Ak (kB (g:=gb155) (o:=.cells #[.int .u64 a0_0,.slice A0_1 l0_1.length c0_1] 25 (0,0)) (by (with_reducible repeat (first|refine kN ?_ _|refine kD ?_|refine kA ?_ _));exact BK155.out) hb);have n1_:=Ak (kB (g:=gb156) (o:=.cells #[.int .u64 a1_0,.bool a1_1,.int .u64 a1_2] 27 (0,0)) (by (with_reducible repeat (first|refine kN ?_ _|refine kD ?_|refine kA ?_ _));exact BK156.out) hb);have n2_:=Ak (kB (g:=gb157) (o:=.cells #[.int .u32 a2_0,.int .u64 a2_1,.int .u64 a2_2,.int .i64 a2_3,.int .i64 a2_4,.int .i64 a2_5,.int .i64 a2_6,.int .i64 a2_7] 32 (0,0)) (by (with_reducible repeat (first|refine kN ?_ _|refine kD ?_|refine kA ?_ _));exact BK157.out) hb);have n3_:=Ak (below_step (by repeat (first|(with_reducible first|exact HB.out|apply bA|apply bN|apply bD|refine bS ?_ GE155.out|refine bS ?_ GE156.out|refine bS ?_ GE157.out)|exact HB.out)) hb);clear BK155;clear BK156;clear BK157;clear HB;have BK155:=n0_;have BK156:=n1_;have BK157:=n2_;have HB:=n3_;clear n0_ n1_ n2_ n3_;(try clear hb);(try clear hb2);(try clear hk);(try clear hi);have hnb11:=NB155_156.out;have hnc11:=NB156_155.out;have hnb12:=NB155_157.out;have hnc12:=NB157_155.out;have hcz13_0 : w10.cell? ⟨gb155,0,none⟩ = some (.int .u64 a0_0):=(kC BK155.out 0).trans rfl;have hcz13_1 : w10.cell? ⟨gb155,1,none⟩ = some (.slice A0_1 l0_1.length c0_1):=(kC BK155.out 1).trans rfl;have hfz13_0:=blk_frozen BK155.out 0;have hfz13_1:=blk_frozen BK155.out 1))
   go_ret
   exact ⟨by first|rfl|(simp [errW_none,errW_some] <;> rfl)|(simp [*,errW_none,errW_some] <;> rfl),by repeat (first|(with_reducible first|exact HB.out|apply bA|apply bN|apply bD|refine bS ?_ GE155.out|refine bS ?_ GE156.out|refine bS ?_ GE157.out)|exact HB.out)⟩
  ·rw [if_neg c6] at H
   have c6b0 : decide (500 < (l0_1.length : Int)) = false:=decide_eq_false c6
   have c6b1 : decide (500 < l0_1.length) = false:=decide_eq_false (by omega)
   clear c6
   replace H:=Option.bind_eq_some_iff.mp H
   obtain ⟨⟨t159,t160⟩,A140,H⟩:=H
   replace H : ((vision_Check.f t159 t160).bind fun t163 => ((gazetteerlaw17_copied.f a0_0 l0_1).bind fun bt164 => ((vision_Sees.f bt164.1 bt164.2 a1_0 a1_1 a1_2 a2_0 a2_1 a2_2 a2_3 a2_4 a2_5 a2_6 a2_7).bind fun bt168 => ((gazetteerref17_Right.f k a0_0 l0_1).bind fun t170 => (if t170 = true then (if t163 = 0 then ((gazetteerlaw17_copied.f a0_0 l0_1).bind fun bt176 => ((vision_Counts.f bt176.1 bt176.2 a1_0 a1_1 a1_2 a2_1).bind fun t180 => ((gazetteerref17_Counts.f k a0_0 l0_1 a1_0 a1_1 a1_2 a2_1).bind fun t181 => (if (t180 != t181) = true then (gazetteerlaw17_VisionCounts.j0 k bt168.1 bt168.2 true a0_0 l0_1 a1_0 a1_1 a1_2 a2_0 a2_1 a2_2 a2_3 a2_4 a2_5 a2_6 a2_7) else ((gazetteerlaw17_copied.f a0_0 l0_1).bind fun bt182 => ((vision_Counts.f bt182.1 bt182.2 a1_0 a1_1 a1_2 a2_2).bind fun t186 => ((gazetteerref17_Counts.f k a0_0 l0_1 a1_0 a1_1 a1_2 a2_2).bind fun t187 => (gazetteerlaw17_VisionCounts.j0 k bt168.1 bt168.2 (t186 != t187) a0_0 l0_1 a1_0 a1_1 a1_2 a2_0 a2_1 a2_2 a2_3 a2_4 a2_5 a2_6 a2_7)))))))) else (gazetteerlaw17_VisionCounts.j0 k bt168.1 bt168.2 true a0_0 l0_1 a1_0 a1_1 a1_2 a2_0 a2_1 a2_2 a2_3 a2_4 a2_5 a2_6 a2_7)) else (if t163 = 270 then (if bt168.1 = true then (some false) else (if bt168.2 = 270 then ((gazetteerlaw17_copied.f a0_0 l0_1).bind fun bt171 => ((vision_Counts.f bt171.1 bt171.2 a1_0 a1_1 a1_2 a2_1).bind fun t175 => (some (!t175)))) else (some false))) else (some false))))))) = some r:=H
   have A14:=Ak A140
   clear A140
   replace H:=Option.bind_eq_some_iff.mp H
   obtain ⟨t163,A150,H⟩:=H
   replace H : ((gazetteerlaw17_copied.f a0_0 l0_1).bind fun bt164 => ((vision_Sees.f bt164.1 bt164.2 a1_0 a1_1 a1_2 a2_0 a2_1 a2_2 a2_3 a2_4 a2_5 a2_6 a2_7).bind fun bt168 => ((gazetteerref17_Right.f k a0_0 l0_1).bind fun t170 => (if t170 = true then (if t163 = 0 then ((gazetteerlaw17_copied.f a0_0 l0_1).bind fun bt176 => ((vision_Counts.f bt176.1 bt176.2 a1_0 a1_1 a1_2 a2_1).bind fun t180 => ((gazetteerref17_Counts.f k a0_0 l0_1 a1_0 a1_1 a1_2 a2_1).bind fun t181 => (if (t180 != t181) = true then (gazetteerlaw17_VisionCounts.j0 k bt168.1 bt168.2 true a0_0 l0_1 a1_0 a1_1 a1_2 a2_0 a2_1 a2_2 a2_3 a2_4 a2_5 a2_6 a2_7) else ((gazetteerlaw17_copied.f a0_0 l0_1).bind fun bt182 => ((vision_Counts.f bt182.1 bt182.2 a1_0 a1_1 a1_2 a2_2).bind fun t186 => ((gazetteerref17_Counts.f k a0_0 l0_1 a1_0 a1_1 a1_2 a2_2).bind fun t187 => (gazetteerlaw17_VisionCounts.j0 k bt168.1 bt168.2 (t186 != t187) a0_0 l0_1 a1_0 a1_1 a1_2 a2_0 a2_1 a2_2 a2_3 a2_4 a2_5 a2_6 a2_7)))))))) else (gazetteerlaw17_VisionCounts.j0 k bt168.1 bt168.2 true a0_0 l0_1 a1_0 a1_1 a1_2 a2_0 a2_1 a2_2 a2_3 a2_4 a2_5 a2_6 a2_7)) else (if t163 = 270 then (if bt168.1 = true then (some false) else (if bt168.2 = 270 then ((gazetteerlaw17_copied.f a0_0 l0_1).bind fun bt171 => ((vision_Counts.f bt171.1 bt171.2 a1_0 a1_1 a1_2 a2_1).bind fun t175 => (some (!t175)))) else (some false))) else (some false)))))) = some r:=H
   have A15:=Ak A150
   clear A150
   replace H:=Option.bind_eq_some_iff.mp H
   obtain ⟨⟨t164,t165⟩,A160,H⟩:=H
   replace H : ((vision_Sees.f t164 t165 a1_0 a1_1 a1_2 a2_0 a2_1 a2_2 a2_3 a2_4 a2_5 a2_6 a2_7).bind fun bt168 => ((gazetteerref17_Right.f k a0_0 l0_1).bind fun t170 => (if t170 = true then (if t163 = 0 then ((gazetteerlaw17_copied.f a0_0 l0_1).bind fun bt176 => ((vision_Counts.f bt176.1 bt176.2 a1_0 a1_1 a1_2 a2_1).bind fun t180 => ((gazetteerref17_Counts.f k a0_0 l0_1 a1_0 a1_1 a1_2 a2_1).bind fun t181 => (if (t180 != t181) = true then (gazetteerlaw17_VisionCounts.j0 k bt168.1 bt168.2 true a0_0 l0_1 a1_0 a1_1 a1_2 a2_0 a2_1 a2_2 a2_3 a2_4 a2_5 a2_6 a2_7) else ((gazetteerlaw17_copied.f a0_0 l0_1).bind fun bt182 => ((vision_Counts.f bt182.1 bt182.2 a1_0 a1_1 a1_2 a2_2).bind fun t186 => ((gazetteerref17_Counts.f k a0_0 l0_1 a1_0 a1_1 a1_2 a2_2).bind fun t187 => (gazetteerlaw17_VisionCounts.j0 k bt168.1 bt168.2 (t186 != t187) a0_0 l0_1 a1_0 a1_1 a1_2 a2_0 a2_1 a2_2 a2_3 a2_4 a2_5 a2_6 a2_7)))))))) else (gazetteerlaw17_VisionCounts.j0 k bt168.1 bt168.2 true a0_0 l0_1 a1_0 a1_1 a1_2 a2_0 a2_1 a2_2 a2_3 a2_4 a2_5 a2_6 a2_7)) else (if t163 = 270 then (if bt168.1 = true then (some false) else (if bt168.2 = 270 then ((gazetteerlaw17_copied.f a0_0 l0_1).bind fun bt171 => ((vision_Counts.f bt171.1 bt171.2 a1_0 a1_1 a1_2 a2_1).bind fun t175 => (some (!t175)))) else (some false))) else (some false))))) = some r:=H
   have A16:=Ak A160
   clear A160
   replace H:=Option.bind_eq_some_iff.mp H
   obtain ⟨⟨t168,t169⟩,A170,H⟩:=H
   replace H : ((gazetteerref17_Right.f k a0_0 l0_1).bind fun t170 => (if t170 = true then (if t163 = 0 then ((gazetteerlaw17_copied.f a0_0 l0_1).bind fun bt176 => ((vision_Counts.f bt176.1 bt176.2 a1_0 a1_1 a1_2 a2_1).bind fun t180 => ((gazetteerref17_Counts.f k a0_0 l0_1 a1_0 a1_1 a1_2 a2_1).bind fun t181 => (if (t180 != t181) = true then (gazetteerlaw17_VisionCounts.j0 k t168 t169 true a0_0 l0_1 a1_0 a1_1 a1_2 a2_0 a2_1 a2_2 a2_3 a2_4 a2_5 a2_6 a2_7) else ((gazetteerlaw17_copied.f a0_0 l0_1).bind fun bt182 => ((vision_Counts.f bt182.1 bt182.2 a1_0 a1_1 a1_2 a2_2).bind fun t186 => ((gazetteerref17_Counts.f k a0_0 l0_1 a1_0 a1_1 a1_2 a2_2).bind fun t187 => (gazetteerlaw17_VisionCounts.j0 k t168 t169 (t186 != t187) a0_0 l0_1 a1_0 a1_1 a1_2 a2_0 a2_1 a2_2 a2_3 a2_4 a2_5 a2_6 a2_7)))))))) else (gazetteerlaw17_VisionCounts.j0 k t168 t169 true a0_0 l0_1 a1_0 a1_1 a1_2 a2_0 a2_1 a2_2 a2_3 a2_4 a2_5 a2_6 a2_7)) else (if t163 = 270 then (if t168 = true then (some false) else (if t169 = 270 then ((gazetteerlaw17_copied.f a0_0 l0_1).bind fun bt171 => ((vision_Counts.f bt171.1 bt171.2 a1_0 a1_1 a1_2 a2_1).bind fun t175 => (some (!t175)))) else (some false))) else (some false)))) = some r:=H
   have A17:=Ak A170
   clear A170
   replace H:=Option.bind_eq_some_iff.mp H
   obtain ⟨t170,A180,H⟩:=H
   replace H : (if t170 = true then (if t163 = 0 then ((gazetteerlaw17_copied.f a0_0 l0_1).bind fun bt176 => ((vision_Counts.f bt176.1 bt176.2 a1_0 a1_1 a1_2 a2_1).bind fun t180 => ((gazetteerref17_Counts.f k a0_0 l0_1 a1_0 a1_1 a1_2 a2_1).bind fun t181 => (if (t180 != t181) = true then (gazetteerlaw17_VisionCounts.j0 k t168 t169 true a0_0 l0_1 a1_0 a1_1 a1_2 a2_0 a2_1 a2_2 a2_3 a2_4 a2_5 a2_6 a2_7) else ((gazetteerlaw17_copied.f a0_0 l0_1).bind fun bt182 => ((vision_Counts.f bt182.1 bt182.2 a1_0 a1_1 a1_2 a2_2).bind fun t186 => ((gazetteerref17_Counts.f k a0_0 l0_1 a1_0 a1_1 a1_2 a2_2).bind fun t187 => (gazetteerlaw17_VisionCounts.j0 k t168 t169 (t186 != t187) a0_0 l0_1 a1_0 a1_1 a1_2 a2_0 a2_1 a2_2 a2_3 a2_4 a2_5 a2_6 a2_7)))))))) else (gazetteerlaw17_VisionCounts.j0 k t168 t169 true a0_0 l0_1 a1_0 a1_1 a1_2 a2_0 a2_1 a2_2 a2_3 a2_4 a2_5 a2_6 a2_7)) else (if t163 = 270 then (if t168 = true then (some false) else (if t169 = 270 then ((gazetteerlaw17_copied.f a0_0 l0_1).bind fun bt171 => ((vision_Counts.f bt171.1 bt171.2 a1_0 a1_1 a1_2 a2_1).bind fun t175 => (some (!t175)))) else (some false))) else (some false))) = some r:=H
   have A18:=Ak A180
   clear A180
   by_cases c19 : t170 = true
   ·subst c19
    have H1 : (if t163 = 0 then ((gazetteerlaw17_copied.f a0_0 l0_1).bind fun bt176 => ((vision_Counts.f bt176.1 bt176.2 a1_0 a1_1 a1_2 a2_1).bind fun t180 => ((gazetteerref17_Counts.f k a0_0 l0_1 a1_0 a1_1 a1_2 a2_1).bind fun t181 => (if (t180 != t181) = true then (gazetteerlaw17_VisionCounts.j0 k t168 t169 true a0_0 l0_1 a1_0 a1_1 a1_2 a2_0 a2_1 a2_2 a2_3 a2_4 a2_5 a2_6 a2_7) else ((gazetteerlaw17_copied.f a0_0 l0_1).bind fun bt182 => ((vision_Counts.f bt182.1 bt182.2 a1_0 a1_1 a1_2 a2_2).bind fun t186 => ((gazetteerref17_Counts.f k a0_0 l0_1 a1_0 a1_1 a1_2 a2_2).bind fun t187 => (gazetteerlaw17_VisionCounts.j0 k t168 t169 (t186 != t187) a0_0 l0_1 a1_0 a1_1 a1_2 a2_0 a2_1 a2_2 a2_3 a2_4 a2_5 a2_6 a2_7)))))))) else (gazetteerlaw17_VisionCounts.j0 k t168 t169 true a0_0 l0_1 a1_0 a1_1 a1_2 a2_0 a2_1 a2_2 a2_3 a2_4 a2_5 a2_6 a2_7)) = some r:=by rw [if_pos rfl] at H;exact H
    clear H
    have H:=H1
    clear H1
    have HC20:=Ak H
    clear H
    go_enter Try.func3,Try.ntmps3
    try go_wp2_with (first|((with_reducible refine gate_dst (N:=3) rfl ?_);refine box_event ?hg (N:=3) ?hd (cs:=#[.int .u64 a0_0,.slice A0_1 l0_1.length c0_1]) (t:=25) ?hr ?_;(case hd => rfl);(case hg => rfl);(case hr => first|(go_simp;done)|(go_simp;rfl));intro gb155 hg w21 hbox hb;have n0_:=Ak (below_step (by repeat (first|(with_reducible first|exact HB.out|apply bA|apply bN|apply bD)|exact HB.out)) hb);have n1_:=Ak (hbox);have n2_:=Ak ((by rw [hg];exact (below_size (by repeat (first|(with_reducible first|exact HB.out|apply bA|apply bN|apply bD)|exact HB.out))) : w.heap.size ≤ gb155));have n3_:=Ak ((by rw [hg];exact (below_size (by repeat (first|(with_reducible first|exact HB.out|apply bA|apply bN|apply bD)|exact HB.out))) : w.heap.size ≤ gb155));clear HB;have HB:=n0_;have BK155:=n1_;have GW155:=n2_;have GE155:=n3_;clear n0_ n1_ n2_ n3_;clear hb hbox hg)|((with_reducible refine gate_dst (N:=4) rfl ?_);refine box_event ?hg (N:=4) ?hd (cs:=#[.int .u64 a1_0,.bool a1_1,.int .u64 a1_2]) (t:=27) ?hr ?_;(case hd => rfl);(case hg => rfl);(case hr => first|(go_simp;done)|(go_simp;rfl));intro gb156 hg w22 hbox hb;have n0_:=Ak (kB (g:=gb155) (o:=.cells #[.int .u64 a0_0,.slice A0_1 l0_1.length c0_1] 25 (0,0)) (by (with_reducible repeat (first|refine kN ?_ _|refine kD ?_|refine kA ?_ _));exact BK155.out) hb);have n1_:=Ak (below_step (by repeat (first|(with_reducible first|exact HB.out|apply bA|apply bN|apply bD|refine bS ?_ GE155.out)|exact HB.out)) hb);have n2_:=Ak (hbox);have n3_:=Ak ((by rw [hg];exact (below_size (by repeat (first|(with_reducible first|exact HB.out|apply bA|apply bN|apply bD|refine bS ?_ GE155.out)|exact HB.out))) : w.heap.size ≤ gb156));have n4_:=Ak ((by rw [hg];exact (below_size (by repeat (first|(with_reducible first|exact HB.out|apply bA|apply bN|apply bD|refine bS ?_ GE155.out)|exact HB.out))) : w.heap.size ≤ gb156));have n5_:=Ak ((by rw [hg];exact Nat.ne_of_lt (blk_lt (g:=gb155) (o:=.cells #[.int .u64 a0_0,.slice A0_1 l0_1.length c0_1] 25 (0,0)) (by (with_reducible repeat (first|refine kN ?_ _|refine kD ?_|refine kA ?_ _));exact BK155.out)) : gb155 ≠ gb156));have n6_:=Ak ((by rw [hg];exact Nat.ne_of_gt (blk_lt (g:=gb155) (o:=.cells #[.int .u64 a0_0,.slice A0_1 l0_1.length c0_1] 25 (0,0)) (by (with_reducible repeat (first|refine kN ?_ _|refine kD ?_|refine kA ?_ _));exact BK155.out)) : gb156 ≠ gb155));clear BK155;clear HB;have BK155:=n0_;have HB:=n1_;have BK156:=n2_;have GW156:=n3_;have GE156:=n4_;have NB155_156:=n5_;have NB156_155:=n6_;clear n0_ n1_ n2_ n3_ n4_ n5_ n6_;clear hb hbox hg)|((with_reducible refine gate_dst (N:=5) rfl ?_);refine box_event ?hg (N:=5) ?hd (cs:=#[.int .u32 a2_0,.int .u64 a2_1,.int .u64 a2_2,.int .i64 a2_3,.int .i64 a2_4,.int .i64 a2_5,.int .i64 a2_6,.int .i64 a2_7]) (t:=32) ?hr ?_;(case hd => rfl);(case hg => rfl);(case hr => first|(go_simp;done)|(go_simp;rfl));intro gb157 hg w23 hbox hb;have n0_:=Ak (kB (g:=gb155) (o:=.cells #[.int .u64 a0_0,.slice A0_1 l0_1.length c0_1] 25 (0,0)) (by (with_reducible repeat (first|refine kN ?_ _|refine kD ?_|refine kA ?_ _));exact BK155.out) hb);have n1_:=Ak (kB (g:=gb156) (o:=.cells #[.int .u64 a1_0,.bool a1_1,.int .u64 a1_2] 27 (0,0)) (by (with_reducible repeat (first|refine kN ?_ _|refine kD ?_|refine kA ?_ _));exact BK156.out) hb);have n2_:=Ak (below_step (by repeat (first|(with_reducible first|exact HB.out|apply bA|apply bN|apply bD|refine bS ?_ GE155.out|refine bS ?_ GE156.out)|exact HB.out)) hb);have n3_:=Ak (hbox);have n4_:=Ak ((by rw [hg];exact (below_size (by repeat (first|(with_reducible first|exact HB.out|apply bA|apply bN|apply bD|refine bS ?_ GE155.out|refine bS ?_ GE156.out)|exact HB.out))) : w.heap.size ≤ gb157));have n5_:=Ak ((by rw [hg];exact (below_size (by repeat (first|(with_reducible first|exact HB.out|apply bA|apply bN|apply bD|refine bS ?_ GE155.out|refine bS ?_ GE156.out)|exact HB.out))) : w.heap.size ≤ gb157));have n6_:=Ak ((by rw [hg];exact Nat.ne_of_lt (blk_lt (g:=gb155) (o:=.cells #[.int .u64 a0_0,.slice A0_1 l0_1.length c0_1] 25 (0,0)) (by (with_reducible repeat (first|refine kN ?_ _|refine kD ?_|refine kA ?_ _));exact BK155.out)) : gb155 ≠ gb157));have n7_:=Ak ((by rw [hg];exact Nat.ne_of_gt (blk_lt (g:=gb155) (o:=.cells #[.int .u64 a0_0,.slice A0_1 l0_1.length c0_1] 25 (0,0)) (by (with_reducible repeat (first|refine kN ?_ _|refine kD ?_|refine kA ?_ _));exact BK155.out)) : gb157 ≠ gb155));have n8_:=Ak ((by rw [hg];exact Nat.ne_of_lt (blk_lt (g:=gb156) (o:=.cells #[.int .u64 a1_0,.bool a1_1,.int .u64 a1_2] 27 (0,0)) (by (with_reducible repeat (first|refine kN ?_ _|refine kD ?_|refine kA ?_ _));exact BK156.out)) : gb156 ≠ gb157));have n9_:=Ak ((by rw [hg];exact Nat.ne_of_gt (blk_lt (g:=gb156) (o:=.cells #[.int .u64 a1_0,.bool a1_1,.int .u64 a1_2] 27 (0,0)) (by (with_reducible repeat (first|refine kN ?_ _|refine kD ?_|refine kA ?_ _));exact BK156.out)) : gb157 ≠ gb156));clear BK155;clear BK156;clear HB;have BK155:=n0_;have BK156:=n1_;have HB:=n2_;have BK157:=n3_;have GW157:=n4_;have GE157:=n5_;have NB155_157:=n6_;have NB157_155:=n7_;have NB156_157:=n8_;have NB157_156:=n9_;clear n0_ n1_ n2_ n3_ n4_ n5_ n6_ n7_ n8_ n9_;clear hb hbox hg)|((with_reducible refine gate_callee (f:=9) rfl ?_);refine goesL_ (some 10) rfl rfl Try.func9 (by kernel_rfl) rfl #[] rfl (by (try simp only [List.map_toArray,List.map_cons,List.map_nil]);first|done|rfl|(simp only [List.length_drop,List.length_take];rfl)) ?_;(with_reducible refine (gazetteerlaw17_wakes.calls  true _ A4.out).mono ?_);rintro e w24 ⟨rfl,hb⟩;refine ⟨_,rfl,?_⟩;have n0_:=Ak (kB (g:=gb155) (o:=.cells #[.int .u64 a0_0,.slice A0_1 l0_1.length c0_1] 25 (0,0)) (by (with_reducible repeat (first|refine kN ?_ _|refine kD ?_|refine kA ?_ _));exact BK155.out) hb);have n1_:=Ak (kB (g:=gb156) (o:=.cells #[.int .u64 a1_0,.bool a1_1,.int .u64 a1_2] 27 (0,0)) (by (with_reducible repeat (first|refine kN ?_ _|refine kD ?_|refine kA ?_ _));exact BK156.out) hb);have n2_:=Ak (kB (g:=gb157) (o:=.cells #[.int .u32 a2_0,.int .u64 a2_1,.int .u64 a2_2,.int .i64 a2_3,.int .i64 a2_4,.int .i64 a2_5,.int .i64 a2_6,.int .i64 a2_7] 32 (0,0)) (by (with_reducible repeat (first|refine kN ?_ _|refine kD ?_|refine kA ?_ _));exact BK157.out) hb);have n3_:=Ak (below_step (by repeat (first|(with_reducible first|exact HB.out|apply bA|apply bN|apply bD|refine bS ?_ GE155.out|refine bS ?_ GE156.out|refine bS ?_ GE157.out)|exact HB.out)) hb);clear BK155;clear BK156;clear BK157;clear HB;have BK155:=n0_;have BK156:=n1_;have BK157:=n2_;have HB:=n3_;clear n0_ n1_ n2_ n3_;(try clear hb);(try clear hb2);(try clear hk);(try clear hi);have hnb25:=NB155_156.out;have hnc25:=NB156_155.out;have hnb26:=NB155_157.out;have hnc26:=NB157_155.out;have hcz27_0 : w24.cell? ⟨gb155,0,none⟩ = some (.int .u64 a0_0):=(kC BK155.out 0).trans rfl;have hcz27_1 : w24.cell? ⟨gb155,1,none⟩ = some (.slice A0_1 l0_1.length c0_1):=(kC BK155.out 1).trans rfl;have hfz27_0:=blk_frozen BK155.out 0;have hfz27_1:=blk_frozen BK155.out 1)|((with_reducible refine gate_callee (f:=11) rfl ?_);refine goesL_ (some 17) rfl rfl Try.func11 (by kernel_rfl) rfl #[.agg #[.int .u64 a0_0,.slice A0_1 l0_1.length c0_1]] rfl (by (try simp only [List.map_toArray,List.map_cons,List.map_nil]);first|done|rfl|(simp only [List.length_drop,List.length_take];rfl)) ?_;(with_reducible refine (gazetteerlaw17_copied.calls a0_0 _ _ l0_1 t159 t160 _ ?side1 ?side2 A14.out).mono ?_);(case side1 => repeat (first|exact (Kd.C_below HR0_1.out HB.out)|(with_reducible refine Kd.C_alloc ?_ _)|(with_reducible refine Kd.C_drewN ?_ _)|(with_reducible refine Kd.C_drew ?_)));(case side2 => exact HC0_1.out);rintro e w28 ⟨v161,rfl,ho0,hb⟩;refine ⟨_,rfl,?_⟩;have n0_:=Ak (Kd.R_lower ho0 (below_size (by repeat (first|(with_reducible first|exact HB.out|apply bA|apply bN|apply bD|refine bS ?_ GE155.out|refine bS ?_ GE156.out|refine bS ?_ GE157.out)|exact HB.out))));have n1_:=Ak (kB (g:=gb155) (o:=.cells #[.int .u64 a0_0,.slice A0_1 l0_1.length c0_1] 25 (0,0)) (by (with_reducible repeat (first|refine kN ?_ _|refine kD ?_|refine kA ?_ _));exact BK155.out) hb);have n2_:=Ak (kB (g:=gb156) (o:=.cells #[.int .u64 a1_0,.bool a1_1,.int .u64 a1_2] 27 (0,0)) (by (with_reducible repeat (first|refine kN ?_ _|refine kD ?_|refine kA ?_ _));exact BK156.out) hb);have n3_:=Ak (kB (g:=gb157) (o:=.cells #[.int .u32 a2_0,.int .u64 a2_1,.int .u64 a2_2,.int .i64 a2_3,.int .i64 a2_4,.int .i64 a2_5,.int .i64 a2_6,.int .i64 a2_7] 32 (0,0)) (by (with_reducible repeat (first|refine kN ?_ _|refine kD ?_|refine kA ?_ _));exact BK157.out) hb);have n4_:=Ak (below_step (by repeat (first|(with_reducible first|exact HB.out|apply bA|apply bN|apply bD|refine bS ?_ GE155.out|refine bS ?_ GE156.out|refine bS ?_ GE157.out)|exact HB.out)) hb);clear BK155;clear BK156;clear BK157;clear HB;have HO162:=n0_;have BK155:=n1_;have BK156:=n2_;have BK157:=n3_;have HB:=n4_;clear n0_ n1_ n2_ n3_ n4_;(try clear hb);(try clear hb2);(try clear hk);(try clear hi);(try clear ho0);obtain ⟨Ao29,co29,eo29⟩:=Kd.R_slice HO162.out;subst eo29)|((with_reducible refine gate_callee (f:=10) rfl ?_);refine goesL_ (some 18) rfl rfl Try.func10 (by kernel_rfl) rfl #[.agg #[.int .u64 t159,.slice Ao29 t160.length co29]] rfl (by (try simp only [List.map_toArray,List.map_cons,List.map_nil]);first|done|rfl|(simp only [List.length_drop,List.length_take];rfl)) ?_;(with_reducible refine (vision_Check.calls t159 _ _ t160 t163 _ ?side1 ?side2 A15.out).mono ?_);(case side1 => repeat (first|exact (Kd.R_reads' HO162.out).2.2|(with_reducible refine Kd.C_alloc ?_ _)|(with_reducible refine Kd.C_drewN ?_ _)|(with_reducible refine Kd.C_drew ?_)));(case side2 => exact (Kd.R_reads' HO162.out).2.1);rintro e w30 ⟨rfl,hb⟩;refine ⟨_,rfl,?_⟩;have n0_:=Ak (Kd.R_below (by (with_reducible repeat (first|apply Kd.R_alloc|apply Kd.R_drewN|apply Kd.R_drew));exact HO162.out) hb);have n1_:=Ak (kB (g:=gb155) (o:=.cells #[.int .u64 a0_0,.slice A0_1 l0_1.length c0_1] 25 (0,0)) (by (with_reducible repeat (first|refine kN ?_ _|refine kD ?_|refine kA ?_ _));exact BK155.out) hb);have n2_:=Ak (kB (g:=gb156) (o:=.cells #[.int .u64 a1_0,.bool a1_1,.int .u64 a1_2] 27 (0,0)) (by (with_reducible repeat (first|refine kN ?_ _|refine kD ?_|refine kA ?_ _));exact BK156.out) hb);have n3_:=Ak (kB (g:=gb157) (o:=.cells #[.int .u32 a2_0,.int .u64 a2_1,.int .u64 a2_2,.int .i64 a2_3,.int .i64 a2_4,.int .i64 a2_5,.int .i64 a2_6,.int .i64 a2_7] 32 (0,0)) (by (with_reducible repeat (first|refine kN ?_ _|refine kD ?_|refine kA ?_ _));exact BK157.out) hb);have n4_:=Ak (below_step (by repeat (first|(with_reducible first|exact HB.out|apply bA|apply bN|apply bD|refine bS ?_ GE155.out|refine bS ?_ GE156.out|refine bS ?_ GE157.out)|exact HB.out)) hb);clear HO162;clear BK155;clear BK156;clear BK157;clear HB;have HO162:=n0_;have BK155:=n1_;have BK156:=n2_;have BK157:=n3_;have HB:=n4_;clear n0_ n1_ n2_ n3_ n4_;(try clear hb);(try clear hb2);(try clear hk);(try clear hi)))
    have n0_:=Ak (Kd.R_drew HO162.out)
    have n1_:=Ak (kD BK155.out)
    have n2_:=Ak (kD BK156.out)
    have n3_:=Ak (kD BK157.out)
    have n4_:=Ak (bD HB.out)
    clear HO162
    clear BK155
    clear BK156
    clear BK157
    clear HB
    have HO162:=n0_
    have BK155:=n1_
    have BK156:=n2_
    have BK157:=n3_
    have HB:=n4_
    clear n0_ n1_ n2_ n3_ n4_
    refine start_ (n:=10) (S:=fun w' => w'.cell? ⟨gb155,0,none⟩ = some (.int .u64 a0_0)∧w'.cell? ⟨gb155,1,none⟩ = some (.slice A0_1 l0_1.length c0_1)∧w'.cell? ⟨gb156,0,none⟩ = some (.int .u64 a1_0)∧w'.cell? ⟨gb156,1,none⟩ = some (.bool a1_1)∧w'.cell? ⟨gb156,2,none⟩ = some (.int .u64 a1_2)∧w'.cell? ⟨gb157,0,none⟩ = some (.int .u32 a2_0)∧w'.cell? ⟨gb157,1,none⟩ = some (.int .u64 a2_1)∧w'.cell? ⟨gb157,2,none⟩ = some (.int .u64 a2_2)∧w'.cell? ⟨gb157,3,none⟩ = some (.int .i64 a2_3)∧w'.cell? ⟨gb157,4,none⟩ = some (.int .i64 a2_4)∧w'.cell? ⟨gb157,5,none⟩ = some (.int .i64 a2_5)∧w'.cell? ⟨gb157,6,none⟩ = some (.int .i64 a2_6)∧w'.cell? ⟨gb157,7,none⟩ = some (.int .i64 a2_7)) (ds:=[]) #[ff,ff,ff,ff,ff,ff,ff,ff,ff,ff] (by kernel_rfl) rfl rfl ⟨(kC BK155.out 0).trans rfl,(kC BK155.out 1).trans rfl,(kC BK156.out 0).trans rfl,(kC BK156.out 1).trans rfl,(kC BK156.out 2).trans rfl,(kC BK157.out 0).trans rfl,(kC BK157.out 1).trans rfl,(kC BK157.out 2).trans rfl,(kC BK157.out 3).trans rfl,(kC BK157.out 4).trans rfl,(kC BK157.out 5).trans rfl,(kC BK157.out 6).trans rfl,(kC BK157.out 7).trans rfl⟩ (fun hHeld => ?_);refine with_tabW gazetteerlaw17_VisionCounts.tab6 gazetteerlaw17_VisionCounts.bits6 (fun HT_ HW_ => ?_)
    generalize w30.drew = w31 at HO162 BK155 BK156 BK157 HB hHeld ⊢
    refine take_ (i:=0) (N:=some 20) (v:=?_) (a':=?_) #[tt,ff,ff,ff,ff,ff,ff,ff,ff,ff] rfl rfl (take_ofW HT_.out HW_.out (by kernel_rfl)) (fun _ _ _ h => h) (Or.inl ⟨by rfl,?_⟩) hHeld ?_ ?_
    rotate_left
    ·rintro w' ⟨s0,s1,s2,s3,s4,s5,s6,s7,s8,s9,s10,s11,s12⟩
     go_simp
     with_reducible rfl
    rotate_left
    ·simp only [Act.put,sA,sZ,sS,i64_w,i32_w]
     rfl
    refine take_ (i:=2) (N:=some 22) (v:=?_) (a':=?_) #[tt,ff,tt,ff,ff,ff,ff,ff,ff,ff] rfl rfl (take_ofW HT_.out HW_.out (by kernel_rfl)) (fun _ _ _ h => h) (Or.inl ⟨by rfl,?_⟩) hHeld ?_ ?_
    rotate_left
    ·rintro w' ⟨s0,s1,s2,s3,s4,s5,s6,s7,s8,s9,s10,s11,s12⟩
     go_simp
     with_reducible rfl
    rotate_left
    ·simp only [Act.put,sA,sZ,sS,i64_w,i32_w]
     rfl
    refine take_ (i:=3) (N:=some 23) (v:=?_) (a':=?_) #[tt,ff,tt,tt,ff,ff,ff,ff,ff,ff] rfl rfl (take_ofW HT_.out HW_.out (by kernel_rfl)) (fun _ _ _ h => h) (Or.inl ⟨by rfl,?_⟩) hHeld ?_ ?_
    rotate_left
    ·rintro w' ⟨s0,s1,s2,s3,s4,s5,s6,s7,s8,s9,s10,s11,s12⟩
     go_simp
     with_reducible rfl
    rotate_left
    ·simp only [Act.put,sA,sZ,sS,i64_w,i32_w]
     rfl
    refine one_ (i:=1) (N:=some 21) #[tt,tt,tt,tt,ff,ff,ff,ff,ff,ff] rfl rfl (one_of HT_.out (by kernel_rfl)) (by decide) (fun K hK => ?_)
    refine goes_ Try.func11 (by kernel_rfl) rfl #[.agg #[.int .u64 a0_0,.slice A0_1 l0_1.length c0_1]] (by rfl) rfl rfl (by (try simp only [List.map_toArray,List.map_cons,List.map_nil]);first|done|rfl|(simp only [List.length_drop,List.length_take];rfl)) ?_
    with_reducible refine (gazetteerlaw17_copied.calls a0_0 _ _ l0_1 t164 t165 _ ?side1 ?side2 A16.out).mono ?_
    (case side1 => repeat (first|exact (Kd.C_below HR0_1.out HB.out)|(with_reducible refine Kd.C_alloc ?_ _)|(with_reducible refine Kd.C_drewN ?_ _)|(with_reducible refine Kd.C_drew ?_)))
    (case side2 => exact HC0_1.out)
    rintro e w32 ⟨v166,rfl,ho0,hb⟩
    refine ⟨_,rfl,?_⟩
    have n0_:=Ak (Kd.R_elder' (by (with_reducible repeat (first|apply Kd.R_alloc|apply Kd.R_drewN|apply Kd.R_drew));exact HO162.out) (Kd.R_base ho0) hb)
    have n1_:=Ak (Kd.R_lower (Kd.R_new' ho0 (Kd.R_lt (by (with_reducible repeat (first|apply Kd.R_alloc|apply Kd.R_drewN|apply Kd.R_drew));exact HO162.out))) (below_size (by repeat (first|(with_reducible first|exact HB.out|apply bA|apply bN|apply bD|refine bS ?_ GE155.out|refine bS ?_ GE156.out|refine bS ?_ GE157.out)|exact HB.out))))
    have n2_:=Ak (kB (g:=gb155) (o:=.cells #[.int .u64 a0_0,.slice A0_1 l0_1.length c0_1] 25 (0,0)) (by (with_reducible repeat (first|refine kN ?_ _|refine kD ?_|refine kA ?_ _));exact BK155.out) hb)
    have n3_:=Ak (kB (g:=gb156) (o:=.cells #[.int .u64 a1_0,.bool a1_1,.int .u64 a1_2] 27 (0,0)) (by (with_reducible repeat (first|refine kN ?_ _|refine kD ?_|refine kA ?_ _));exact BK156.out) hb)
    have n4_:=Ak (kB (g:=gb157) (o:=.cells #[.int .u32 a2_0,.int .u64 a2_1,.int .u64 a2_2,.int .i64 a2_3,.int .i64 a2_4,.int .i64 a2_5,.int .i64 a2_6,.int .i64 a2_7] 32 (0,0)) (by (with_reducible repeat (first|refine kN ?_ _|refine kD ?_|refine kA ?_ _));exact BK157.out) hb)
    have n5_:=Ak (below_step (by repeat (first|(with_reducible first|exact HB.out|apply bA|apply bN|apply bD|refine bS ?_ GE155.out|refine bS ?_ GE156.out|refine bS ?_ GE157.out)|exact HB.out)) hb)
    clear HO162
    clear BK155
    clear BK156
    clear BK157
    clear HB
    have HO162:=n0_
    have HO167:=n1_
    have BK155:=n2_
    have BK156:=n3_
    have BK157:=n4_
    have HB:=n5_
    clear n0_ n1_ n2_ n3_ n4_ n5_
    (try clear hb)
    (try clear hb2)
    (try clear hk)
    (try clear hi)
    (try clear ho0)
    obtain ⟨Ao33,co33,eo33⟩:=Kd.R_slice HO167.out
    (first|subst eo33|(injection eo33 with f1_ f2_ f3_;have f4_:=f1_.symm;have f5_:=f3_.symm;clear f1_ f2_ f3_;subst f4_;subst f5_))
    refine hK.out _ _ ⟨(kC BK155.out 0).trans rfl,(kC BK155.out 1).trans rfl,(kC BK156.out 0).trans rfl,(kC BK156.out 1).trans rfl,(kC BK156.out 2).trans rfl,(kC BK157.out 0).trans rfl,(kC BK157.out 1).trans rfl,(kC BK157.out 2).trans rfl,(kC BK157.out 3).trans rfl,(kC BK157.out 4).trans rfl,(kC BK157.out 5).trans rfl,(kC BK157.out 6).trans rfl,(kC BK157.out 7).trans rfl⟩ (fun hHeld => ?_)
    clear hK K
    refine norm_ (a':=?_) ?_ ?_
    rotate_left
    ·show Act.put _ (some 21) _ = _
     simp only [Act.put,sA,sZ,sS,i64_w,i32_w]
     rfl
    refine one_ (i:=4) (N:=some 24) #[tt,tt,tt,tt,tt,ff,ff,ff,ff,ff] rfl rfl (one_of HT_.out (by kernel_rfl)) (by decide) (fun K hK => ?_)
    refine goes_ Try.func12 (by kernel_rfl) rfl #[.agg #[.int .u64 t164,.slice Ao33 t165.length co33],.agg #[.int .u64 a1_0,.bool a1_1,.int .u64 a1_2],.agg #[.int .u32 a2_0,.int .u64 a2_1,.int .u64 a2_2,.int .i64 a2_3,.int .i64 a2_4,.int .i64 a2_5,.int .i64 a2_6,.int .i64 a2_7]] (by rfl) rfl rfl (by (try simp only [List.map_toArray,List.map_cons,List.map_nil]);first|done|rfl|(simp only [List.length_drop,List.length_take];rfl)) ?_
    with_reducible refine (vision_Sees.calls t164 _ _ t165 a1_0 a1_1 a1_2 a2_0 a2_1 a2_2 a2_3 a2_4 a2_5 a2_6 a2_7 t168 t169 _ ?side1 ?side2 A17.out).mono ?_
    (case side1 => repeat (first|exact (Kd.R_reads' HO167.out).2.2|(with_reducible refine Kd.C_alloc ?_ _)|(with_reducible refine Kd.C_drewN ?_ _)|(with_reducible refine Kd.C_drew ?_)))
    (case side2 => exact (Kd.R_reads' HO167.out).2.1)
    rintro e w34 ⟨rfl,hb⟩
    refine ⟨_,rfl,?_⟩
    have n0_:=Ak (Kd.R_below (by (with_reducible repeat (first|apply Kd.R_alloc|apply Kd.R_drewN|apply Kd.R_drew));exact HO162.out) hb)
    have n1_:=Ak (Kd.R_below (by (with_reducible repeat (first|apply Kd.R_alloc|apply Kd.R_drewN|apply Kd.R_drew));exact HO167.out) hb)
    have n2_:=Ak (kB (g:=gb155) (o:=.cells #[.int .u64 a0_0,.slice A0_1 l0_1.length c0_1] 25 (0,0)) (by (with_reducible repeat (first|refine kN ?_ _|refine kD ?_|refine kA ?_ _));exact BK155.out) hb)
    have n3_:=Ak (kB (g:=gb156) (o:=.cells #[.int .u64 a1_0,.bool a1_1,.int .u64 a1_2] 27 (0,0)) (by (with_reducible repeat (first|refine kN ?_ _|refine kD ?_|refine kA ?_ _));exact BK156.out) hb)
    have n4_:=Ak (kB (g:=gb157) (o:=.cells #[.int .u32 a2_0,.int .u64 a2_1,.int .u64 a2_2,.int .i64 a2_3,.int .i64 a2_4,.int .i64 a2_5,.int .i64 a2_6,.int .i64 a2_7] 32 (0,0)) (by (with_reducible repeat (first|refine kN ?_ _|refine kD ?_|refine kA ?_ _));exact BK157.out) hb)
    have n5_:=Ak (below_step (by repeat (first|(with_reducible first|exact HB.out|apply bA|apply bN|apply bD|refine bS ?_ GE155.out|refine bS ?_ GE156.out|refine bS ?_ GE157.out)|exact HB.out)) hb)
    clear HO162
    clear HO167
    clear BK155
    clear BK156
    clear BK157
    clear HB
    have HO162:=n0_
    have HO167:=n1_
    have BK155:=n2_
    have BK156:=n3_
    have BK157:=n4_
    have HB:=n5_
    clear n0_ n1_ n2_ n3_ n4_ n5_
    (try clear hb)
    (try clear hb2)
    (try clear hk)
    (try clear hi)
    refine hK.out _ _ ⟨(kC BK155.out 0).trans rfl,(kC BK155.out 1).trans rfl,(kC BK156.out 0).trans rfl,(kC BK156.out 1).trans rfl,(kC BK156.out 2).trans rfl,(kC BK157.out 0).trans rfl,(kC BK157.out 1).trans rfl,(kC BK157.out 2).trans rfl,(kC BK157.out 3).trans rfl,(kC BK157.out 4).trans rfl,(kC BK157.out 5).trans rfl,(kC BK157.out 6).trans rfl,(kC BK157.out 7).trans rfl⟩ (fun hHeld => ?_)
    clear hK K
    refine norm_ (a':=?_) ?_ ?_
    rotate_left
    ·show Act.put _ (some 24) _ = _
     simp only [Act.put,sA,sZ,sS,i64_w,i32_w]
     rfl
    refine pure_ (i:=5) (N:=some 19) (v:=?_) (a':=?_) #[tt,tt,tt,tt,tt,tt,ff,ff,ff,ff] rfl rfl (any_of HT_.out (by kernel_rfl)) (fun _ _ _ h => h) (Or.inl ⟨by rfl,?_⟩) ?_ ?_
    rotate_left
    ·intro w'
     go_simp
     with_reducible rfl
    rotate_left
    ·simp only [Act.put,sA,sZ,sS,i64_w,i32_w]
     rfl
    refine pure_ (i:=6) (N:=some 25) (v:=?_) (a':=?_) #[tt,tt,tt,tt,tt,tt,tt,ff,ff,ff] rfl rfl (any_of HT_.out (by kernel_rfl)) (fun _ _ _ h => h) (Or.inl ⟨by rfl,?_⟩) ?_ ?_
    rotate_left
    ·intro w'
     go_simp
     with_reducible rfl
    rotate_left
    ·simp only [Act.put,sA,sZ,sS,i64_w,i32_w]
     rfl
    refine pure_ (i:=7) (N:=some 26) (v:=?_) (a':=?_) #[tt,tt,tt,tt,tt,tt,tt,tt,ff,ff] rfl rfl (any_of HT_.out (by kernel_rfl)) (fun _ _ _ h => h) (Or.inl ⟨by rfl,?_⟩) ?_ ?_
    rotate_left
    ·intro w'
     go_simp
     with_reducible rfl
    rotate_left
    ·simp only [Act.put,sA,sZ,sS,i64_w,i32_w]
     rfl
    refine pure_ (i:=8) (N:=some 8) (v:=?_) (a':=?_) #[tt,tt,tt,tt,tt,tt,tt,tt,tt,ff] rfl rfl (any_of HT_.out (by kernel_rfl)) (fun _ _ _ h => h) (Or.inl ⟨by rfl,?_⟩) ?_ ?_
    rotate_left
    ·intro w'
     go_simp
     with_reducible rfl
    rotate_left
    ·simp only [Act.put,sA,sZ,sS,i64_w,i32_w]
     rfl
    refine pure_ (i:=9) (N:=some 9) (v:=?_) (a':=?_) #[tt,tt,tt,tt,tt,tt,tt,tt,tt,tt] rfl rfl (any_of HT_.out (by kernel_rfl)) (fun _ _ _ h => h) (Or.inl ⟨by rfl,?_⟩) ?_ ?_
    rotate_left
    ·intro w'
     go_simp
     with_reducible rfl
    rotate_left
    ·simp only [Act.put,sA,sZ,sS,i64_w,i32_w]
     rfl
    refine done_ (done_of HT_.out (by kernel_rfl)) ?_
    have hcz35_0 : w34.cell? ⟨gb155,0,none⟩ = some (.int .u64 a0_0):=(kC BK155.out 0).trans rfl
    have hcz35_1 : w34.cell? ⟨gb155,1,none⟩ = some (.slice A0_1 l0_1.length c0_1):=(kC BK155.out 1).trans rfl
    have hfz35_0:=blk_frozen BK155.out 0
    have hfz35_1:=blk_frozen BK155.out 1
    go_upto_region 9 with (first|((with_reducible refine gate_callee (f:=13) rfl ?_);refine goesL_ (some 28) rfl rfl Try.func13 (by kernel_rfl) rfl #[.agg #[.int .u64 a0_0,.slice A0_1 l0_1.length c0_1]] rfl (by (try simp only [List.map_toArray,List.map_cons,List.map_nil]);first|done|rfl|(simp only [List.length_drop,List.length_take];rfl)) ?_;(with_reducible refine (gazetteerref17_Right.calls k a0_0 _ _ l0_1 true _ ?side1 ?side2 A18.out).mono ?_);(case side1 => repeat (first|exact (Kd.C_below HR0_1.out HB.out)|(with_reducible refine Kd.C_alloc ?_ _)|(with_reducible refine Kd.C_drewN ?_ _)|(with_reducible refine Kd.C_drew ?_)));(case side2 => exact HC0_1.out);rintro e w36 ⟨rfl,hb⟩;refine ⟨_,rfl,?_⟩;have n0_:=Ak (Kd.R_below (by (with_reducible repeat (first|apply Kd.R_alloc|apply Kd.R_drewN|apply Kd.R_drew));exact HO162.out) hb);have n1_:=Ak (Kd.R_below (by (with_reducible repeat (first|apply Kd.R_alloc|apply Kd.R_drewN|apply Kd.R_drew));exact HO167.out) hb);have n2_:=Ak (kB (g:=gb155) (o:=.cells #[.int .u64 a0_0,.slice A0_1 l0_1.length c0_1] 25 (0,0)) (by (with_reducible repeat (first|refine kN ?_ _|refine kD ?_|refine kA ?_ _));exact BK155.out) hb);have n3_:=Ak (kB (g:=gb156) (o:=.cells #[.int .u64 a1_0,.bool a1_1,.int .u64 a1_2] 27 (0,0)) (by (with_reducible repeat (first|refine kN ?_ _|refine kD ?_|refine kA ?_ _));exact BK156.out) hb);have n4_:=Ak (kB (g:=gb157) (o:=.cells #[.int .u32 a2_0,.int .u64 a2_1,.int .u64 a2_2,.int .i64 a2_3,.int .i64 a2_4,.int .i64 a2_5,.int .i64 a2_6,.int .i64 a2_7] 32 (0,0)) (by (with_reducible repeat (first|refine kN ?_ _|refine kD ?_|refine kA ?_ _));exact BK157.out) hb);have n5_:=Ak (below_step (by repeat (first|(with_reducible first|exact HB.out|apply bA|apply bN|apply bD|refine bS ?_ GE155.out|refine bS ?_ GE156.out|refine bS ?_ GE157.out)|exact HB.out)) hb);clear HO162;clear HO167;clear BK155;clear BK156;clear BK157;clear HB;have HO162:=n0_;have HO167:=n1_;have BK155:=n2_;have BK156:=n3_;have BK157:=n4_;have HB:=n5_;clear n0_ n1_ n2_ n3_ n4_ n5_;(try clear hb);(try clear hb2);(try clear hk);(try clear hi)))
    (try simp only [Act.put,sA,sZ,sS])
    go_cut [78] (fun v78 wc => ∃ (kq : Nat) (x78_19 : Bool),v78 = .bool x78_19∧Aside0 (gazetteerlaw17_VisionCounts.j0 kq t168 t169 x78_19 a0_0 l0_1 a1_0 a1_1 a1_2 a2_0 a2_1 a2_2 a2_3 a2_4 a2_5 a2_6 a2_7 = some r)∧Aside0 (kq ≤ k)∧Aside0 (wc.heap[gb155]? = some (.cells #[.int .u64 a0_0,(.slice A0_1 l0_1.length c0_1)] 25 (0,0)))∧Aside0 (wc.heap[gb156]? = some (.cells #[.int .u64 a1_0,.bool a1_1,.int .u64 a1_2] 27 (0,0)))∧Aside0 (wc.heap[gb157]? = some (.cells #[.int .u32 a2_0,.int .u64 a2_1,.int .u64 a2_2,.int .i64 a2_3,.int .i64 a2_4,.int .i64 a2_5,.int .i64 a2_6,.int .i64 a2_7] 32 (0,0)))∧Aside0 (Below w.heap.size w wc))
    case first =>
     have H:=HC20.out
     clear HC20
     by_cases c37 : t163 = 0
     ·rw [if_pos c37] at H
      have c37b0 : (t163 == 0) = true:=beq_iff_eq.mpr c37
      have c37b1 : (t163 != 0) = false:=bne_eq_false_iff_eq.mpr c37
      clear c37
      (first|rw [c37b0]|(simp only [i64_w,i32_w];rw [c37b0])|skip)
      replace H:=Option.bind_eq_some_iff.mp H
      obtain ⟨⟨t176,t177⟩,A380,H⟩:=H
      replace H : ((vision_Counts.f t176 t177 a1_0 a1_1 a1_2 a2_1).bind fun t180 => ((gazetteerref17_Counts.f k a0_0 l0_1 a1_0 a1_1 a1_2 a2_1).bind fun t181 => (if (t180 != t181) = true then (gazetteerlaw17_VisionCounts.j0 k t168 t169 true a0_0 l0_1 a1_0 a1_1 a1_2 a2_0 a2_1 a2_2 a2_3 a2_4 a2_5 a2_6 a2_7) else ((gazetteerlaw17_copied.f a0_0 l0_1).bind fun bt182 => ((vision_Counts.f bt182.1 bt182.2 a1_0 a1_1 a1_2 a2_2).bind fun t186 => ((gazetteerref17_Counts.f k a0_0 l0_1 a1_0 a1_1 a1_2 a2_2).bind fun t187 => (gazetteerlaw17_VisionCounts.j0 k t168 t169 (t186 != t187) a0_0 l0_1 a1_0 a1_1 a1_2 a2_0 a2_1 a2_2 a2_3 a2_4 a2_5 a2_6 a2_7))))))) = some r:=H
      have A38:=Ak A380
      clear A380
      replace H:=Option.bind_eq_some_iff.mp H
      obtain ⟨t180,A390,H⟩:=H
      replace H : ((gazetteerref17_Counts.f k a0_0 l0_1 a1_0 a1_1 a1_2 a2_1).bind fun t181 => (if (t180 != t181) = true then (gazetteerlaw17_VisionCounts.j0 k t168 t169 true a0_0 l0_1 a1_0 a1_1 a1_2 a2_0 a2_1 a2_2 a2_3 a2_4 a2_5 a2_6 a2_7) else ((gazetteerlaw17_copied.f a0_0 l0_1).bind fun bt182 => ((vision_Counts.f bt182.1 bt182.2 a1_0 a1_1 a1_2 a2_2).bind fun t186 => ((gazetteerref17_Counts.f k a0_0 l0_1 a1_0 a1_1 a1_2 a2_2).bind fun t187 => (gazetteerlaw17_VisionCounts.j0 k t168 t169 (t186 != t187) a0_0 l0_1 a1_0 a1_1 a1_2 a2_0 a2_1 a2_2 a2_3 a2_4 a2_5 a2_6 a2_7)))))) = some r:=H
      have A39:=Ak A390
      clear A390
      replace H:=Option.bind_eq_some_iff.mp H
      obtain ⟨t181,A400,H⟩:=H
      replace H : (if (t180 != t181) = true then (gazetteerlaw17_VisionCounts.j0 k t168 t169 true a0_0 l0_1 a1_0 a1_1 a1_2 a2_0 a2_1 a2_2 a2_3 a2_4 a2_5 a2_6 a2_7) else ((gazetteerlaw17_copied.f a0_0 l0_1).bind fun bt182 => ((vision_Counts.f bt182.1 bt182.2 a1_0 a1_1 a1_2 a2_2).bind fun t186 => ((gazetteerref17_Counts.f k a0_0 l0_1 a1_0 a1_1 a1_2 a2_2).bind fun t187 => (gazetteerlaw17_VisionCounts.j0 k t168 t169 (t186 != t187) a0_0 l0_1 a1_0 a1_1 a1_2 a2_0 a2_1 a2_2 a2_3 a2_4 a2_5 a2_6 a2_7))))) = some r:=H
      have A40:=Ak A400
      clear A400
      by_cases c41 : (t180 != t181) = true
      ·rw [if_pos c41] at H
       have c41b0 : (t180 != t181) = true:=c41
       (try (have c41b1 : decide (t180 = t181) = false:=by simpa using c41))
       (try (have c41b2 : (t180 == t181) = false:=by simpa using c41))
       (try (have c41b3 : ¬ (t180 = t181):=by simpa using c41))
       clear c41
       have H':=Ak H
       clear H
       try go_wp2
       have n0_:=Ak (Kd.R_drew HO162.out)
       have n1_:=Ak (Kd.R_drew HO167.out)
       have n2_:=Ak (kD BK155.out)
       have n3_:=Ak (kD BK156.out)
       have n4_:=Ak (kD BK157.out)
       have n5_:=Ak (bD HB.out)
       clear HO162
       clear HO167
       clear BK155
       clear BK156
       clear BK157
       clear HB
       have HO162:=n0_
       have HO167:=n1_
       have BK155:=n2_
       have BK156:=n3_
       have BK157:=n4_
       have HB:=n5_
       clear n0_ n1_ n2_ n3_ n4_ n5_
       refine start_ (n:=30) (S:=fun w' => w'.cell? ⟨gb155,0,none⟩ = some (.int .u64 a0_0)∧w'.cell? ⟨gb155,1,none⟩ = some (.slice A0_1 l0_1.length c0_1)∧w'.cell? ⟨gb156,0,none⟩ = some (.int .u64 a1_0)∧w'.cell? ⟨gb156,1,none⟩ = some (.bool a1_1)∧w'.cell? ⟨gb156,2,none⟩ = some (.int .u64 a1_2)∧w'.cell? ⟨gb157,0,none⟩ = some (.int .u32 a2_0)∧w'.cell? ⟨gb157,1,none⟩ = some (.int .u64 a2_1)∧w'.cell? ⟨gb157,2,none⟩ = some (.int .u64 a2_2)∧w'.cell? ⟨gb157,3,none⟩ = some (.int .i64 a2_3)∧w'.cell? ⟨gb157,4,none⟩ = some (.int .i64 a2_4)∧w'.cell? ⟨gb157,5,none⟩ = some (.int .i64 a2_5)∧w'.cell? ⟨gb157,6,none⟩ = some (.int .i64 a2_6)∧w'.cell? ⟨gb157,7,none⟩ = some (.int .i64 a2_7)) (ds:=[]) #[ff,ff,ff,ff,ff,ff,ff,ff,ff,ff,ff,ff,ff,ff,ff,ff,ff,ff,ff,ff,ff,ff,ff,ff,ff,ff,ff,ff,ff,ff] (by kernel_rfl) rfl rfl ⟨(kC BK155.out 0).trans rfl,(kC BK155.out 1).trans rfl,(kC BK156.out 0).trans rfl,(kC BK156.out 1).trans rfl,(kC BK156.out 2).trans rfl,(kC BK157.out 0).trans rfl,(kC BK157.out 1).trans rfl,(kC BK157.out 2).trans rfl,(kC BK157.out 3).trans rfl,(kC BK157.out 4).trans rfl,(kC BK157.out 5).trans rfl,(kC BK157.out 6).trans rfl,(kC BK157.out 7).trans rfl⟩ (fun hHeld => ?_);refine with_tabW gazetteerlaw17_VisionCounts.tab9 gazetteerlaw17_VisionCounts.bits9 (fun HT_ HW_ => ?_)
       generalize w36.drew = w42 at HO162 HO167 BK155 BK156 BK157 HB hHeld ⊢
       refine pure_ (i:=0) (N:=some 49) (v:=?_) (a':=?_) #[tt,ff,ff,ff,ff,ff,ff,ff,ff,ff,ff,ff,ff,ff,ff,ff,ff,ff,ff,ff,ff,ff,ff,ff,ff,ff,ff,ff,ff,ff] rfl rfl (any_of HT_.out (by kernel_rfl)) (fun _ _ _ h => h) (Or.inl ⟨by rfl,?_⟩) ?_ ?_
       rotate_left
       ·intro w'
        go_simp
        with_reducible rfl
       rotate_left
       ·simp only [Act.put,sA,sZ,sS,i64_w,i32_w]
        rfl
       refine pure_ (i:=1) (N:=some 50) (v:=?_) (a':=?_) #[tt,tt,ff,ff,ff,ff,ff,ff,ff,ff,ff,ff,ff,ff,ff,ff,ff,ff,ff,ff,ff,ff,ff,ff,ff,ff,ff,ff,ff,ff] rfl rfl (any_of HT_.out (by kernel_rfl)) (fun _ _ _ h => h) (Or.inl ⟨by rfl,?_⟩) ?_ ?_
       rotate_left
       ·intro w'
        go_simp
        with_reducible rfl
       rotate_left
       ·simp only [Act.put,sA,sZ,sS,i64_w,i32_w]
        rfl
       refine pure_ (i:=2) (N:=some 51) (v:=?_) (a':=?_) #[tt,tt,tt,ff,ff,ff,ff,ff,ff,ff,ff,ff,ff,ff,ff,ff,ff,ff,ff,ff,ff,ff,ff,ff,ff,ff,ff,ff,ff,ff] rfl rfl (any_of HT_.out (by kernel_rfl)) (fun _ _ _ h => h) (Or.inl ⟨by rfl,?_⟩) ?_ ?_
       rotate_left
       ·intro w'
        go_simp
        with_reducible rfl
       rotate_left
       ·simp only [Act.put,sA,sZ,sS,i64_w,i32_w]
        rfl
       refine pure_ (i:=6) (N:=some 55) (v:=?_) (a':=?_) #[tt,tt,tt,ff,ff,ff,tt,ff,ff,ff,ff,ff,ff,ff,ff,ff,ff,ff,ff,ff,ff,ff,ff,ff,ff,ff,ff,ff,ff,ff] rfl rfl (any_of HT_.out (by kernel_rfl)) (fun _ _ _ h => h) (Or.inl ⟨by rfl,?_⟩) ?_ ?_
       rotate_left
       ·intro w'
        go_simp
        with_reducible rfl
       rotate_left
       ·simp only [Act.put,sA,sZ,sS,i64_w,i32_w]
        rfl
       refine pure_ (i:=11) (N:=some 60) (v:=?_) (a':=?_) #[tt,tt,tt,ff,ff,ff,tt,ff,ff,ff,ff,tt,ff,ff,ff,ff,ff,ff,ff,ff,ff,ff,ff,ff,ff,ff,ff,ff,ff,ff] rfl rfl (any_of HT_.out (by kernel_rfl)) (fun _ _ _ h => h) (Or.inl ⟨by rfl,?_⟩) ?_ ?_
       rotate_left
       ·intro w'
        go_simp
        with_reducible rfl
       rotate_left
       ·simp only [Act.put,sA,sZ,sS,i64_w,i32_w]
        rfl
       refine take_ (i:=3) (N:=some 52) (v:=?_) (a':=?_) #[tt,tt,tt,tt,ff,ff,tt,ff,ff,ff,ff,tt,ff,ff,ff,ff,ff,ff,ff,ff,ff,ff,ff,ff,ff,ff,ff,ff,ff,ff] rfl rfl (take_ofW HT_.out HW_.out (by kernel_rfl)) (fun _ _ _ h => h) (Or.inl ⟨by rfl,?_⟩) hHeld ?_ ?_
       rotate_left
       ·rintro w' ⟨s0,s1,s2,s3,s4,s5,s6,s7,s8,s9,s10,s11,s12⟩
        go_simp
        with_reducible rfl
       rotate_left
       ·simp only [Act.put,sA,sZ,sS,i64_w,i32_w]
        rfl
       refine take_ (i:=5) (N:=some 54) (v:=?_) (a':=?_) #[tt,tt,tt,tt,ff,tt,tt,ff,ff,ff,ff,tt,ff,ff,ff,ff,ff,ff,ff,ff,ff,ff,ff,ff,ff,ff,ff,ff,ff,ff] rfl rfl (take_ofW HT_.out HW_.out (by kernel_rfl)) (fun _ _ _ h => h) (Or.inl ⟨by rfl,?_⟩) hHeld ?_ ?_
       rotate_left
       ·rintro w' ⟨s0,s1,s2,s3,s4,s5,s6,s7,s8,s9,s10,s11,s12⟩
        go_simp
        with_reducible rfl
       rotate_left
       ·simp only [Act.put,sA,sZ,sS,i64_w,i32_w]
        rfl
       refine take_ (i:=7) (N:=some 56) (v:=?_) (a':=?_) #[tt,tt,tt,tt,ff,tt,tt,tt,ff,ff,ff,tt,ff,ff,ff,ff,ff,ff,ff,ff,ff,ff,ff,ff,ff,ff,ff,ff,ff,ff] rfl rfl (take_ofW HT_.out HW_.out (by kernel_rfl)) (fun _ _ _ h => h) (Or.inl ⟨by rfl,?_⟩) hHeld ?_ ?_
       rotate_left
       ·rintro w' ⟨s0,s1,s2,s3,s4,s5,s6,s7,s8,s9,s10,s11,s12⟩
        go_simp
        with_reducible rfl
       rotate_left
       ·simp only [Act.put,sA,sZ,sS,i64_w,i32_w]
        rfl
       refine take_ (i:=9) (N:=some 58) (v:=?_) (a':=?_) #[tt,tt,tt,tt,ff,tt,tt,tt,ff,tt,ff,tt,ff,ff,ff,ff,ff,ff,ff,ff,ff,ff,ff,ff,ff,ff,ff,ff,ff,ff] rfl rfl (take_ofW HT_.out HW_.out (by kernel_rfl)) (fun _ _ _ h => h) (Or.inl ⟨by rfl,?_⟩) hHeld ?_ ?_
       rotate_left
       ·rintro w' ⟨s0,s1,s2,s3,s4,s5,s6,s7,s8,s9,s10,s11,s12⟩
        go_simp
        with_reducible rfl
       rotate_left
       ·simp only [Act.put,sA,sZ,sS,i64_w,i32_w]
        rfl
       refine take_ (i:=10) (N:=some 59) (v:=?_) (a':=?_) #[tt,tt,tt,tt,ff,tt,tt,tt,ff,tt,tt,tt,ff,ff,ff,ff,ff,ff,ff,ff,ff,ff,ff,ff,ff,ff,ff,ff,ff,ff] rfl rfl (take_ofW HT_.out HW_.out (by kernel_rfl)) (fun _ _ _ h => h) (Or.inl ⟨by rfl,?_⟩) hHeld ?_ ?_
       rotate_left
       ·rintro w' ⟨s0,s1,s2,s3,s4,s5,s6,s7,s8,s9,s10,s11,s12⟩
        go_simp
        with_reducible rfl
       rotate_left
       ·simp only [Act.put,sA,sZ,sS,i64_w,i32_w]
        rfl
       refine take_ (i:=12) (N:=some 61) (v:=?_) (a':=?_) #[tt,tt,tt,tt,ff,tt,tt,tt,ff,tt,tt,tt,tt,ff,ff,ff,ff,ff,ff,ff,ff,ff,ff,ff,ff,ff,ff,ff,ff,ff] rfl rfl (take_ofW HT_.out HW_.out (by kernel_rfl)) (fun _ _ _ h => h) (Or.inl ⟨by rfl,?_⟩) hHeld ?_ ?_
       rotate_left
       ·rintro w' ⟨s0,s1,s2,s3,s4,s5,s6,s7,s8,s9,s10,s11,s12⟩
        go_simp
        with_reducible rfl
       rotate_left
       ·simp only [Act.put,sA,sZ,sS,i64_w,i32_w]
        rfl
       refine one_ (i:=4) (N:=some 53) #[tt,tt,tt,tt,tt,tt,tt,tt,ff,tt,tt,tt,tt,ff,ff,ff,ff,ff,ff,ff,ff,ff,ff,ff,ff,ff,ff,ff,ff,ff] rfl rfl (one_of HT_.out (by kernel_rfl)) (by decide) (fun K hK => ?_)
       refine goes_ Try.func11 (by kernel_rfl) rfl #[.agg #[.int .u64 a0_0,.slice A0_1 l0_1.length c0_1]] (by rfl) rfl rfl (by (try simp only [List.map_toArray,List.map_cons,List.map_nil]);first|done|rfl|(simp only [List.length_drop,List.length_take];rfl)) ?_
       with_reducible refine (gazetteerlaw17_copied.calls a0_0 _ _ l0_1 t176 t177 _ ?side1 ?side2 A38.out).mono ?_
       (case side1 => repeat (first|exact (Kd.C_below HR0_1.out HB.out)|(with_reducible refine Kd.C_alloc ?_ _)|(with_reducible refine Kd.C_drewN ?_ _)|(with_reducible refine Kd.C_drew ?_)))
       (case side2 => exact HC0_1.out)
       rintro e w43 ⟨v178,rfl,ho0,hb⟩
       refine ⟨_,rfl,?_⟩
       have n0_:=Ak (Kd.R_elder' (by (with_reducible repeat (first|apply Kd.R_alloc|apply Kd.R_drewN|apply Kd.R_drew));exact HO162.out) (Kd.R_base ho0) hb)
       have n1_:=Ak (Kd.R_elder' (by (with_reducible repeat (first|apply Kd.R_alloc|apply Kd.R_drewN|apply Kd.R_drew));exact HO167.out) (Kd.R_base ho0) hb)
       have n2_:=Ak (Kd.R_lower (Kd.R_new' (Kd.R_new' ho0 (Kd.R_lt (by (with_reducible repeat (first|apply Kd.R_alloc|apply Kd.R_drewN|apply Kd.R_drew));exact HO162.out))) (Kd.R_lt (by (with_reducible repeat (first|apply Kd.R_alloc|apply Kd.R_drewN|apply Kd.R_drew));exact HO167.out))) (below_size (by repeat (first|(with_reducible first|exact HB.out|apply bA|apply bN|apply bD|refine bS ?_ GE155.out|refine bS ?_ GE156.out|refine bS ?_ GE157.out)|exact HB.out))))
       have n3_:=Ak (kB (g:=gb155) (o:=.cells #[.int .u64 a0_0,.slice A0_1 l0_1.length c0_1] 25 (0,0)) (by (with_reducible repeat (first|refine kN ?_ _|refine kD ?_|refine kA ?_ _));exact BK155.out) hb)
       have n4_:=Ak (kB (g:=gb156) (o:=.cells #[.int .u64 a1_0,.bool a1_1,.int .u64 a1_2] 27 (0,0)) (by (with_reducible repeat (first|refine kN ?_ _|refine kD ?_|refine kA ?_ _));exact BK156.out) hb)
       have n5_:=Ak (kB (g:=gb157) (o:=.cells #[.int .u32 a2_0,.int .u64 a2_1,.int .u64 a2_2,.int .i64 a2_3,.int .i64 a2_4,.int .i64 a2_5,.int .i64 a2_6,.int .i64 a2_7] 32 (0,0)) (by (with_reducible repeat (first|refine kN ?_ _|refine kD ?_|refine kA ?_ _));exact BK157.out) hb)
       have n6_:=Ak (below_step (by repeat (first|(with_reducible first|exact HB.out|apply bA|apply bN|apply bD|refine bS ?_ GE155.out|refine bS ?_ GE156.out|refine bS ?_ GE157.out)|exact HB.out)) hb)
       clear HO162
       clear HO167
       clear BK155
       clear BK156
       clear BK157
       clear HB
       have HO162:=n0_
       have HO167:=n1_
       have HO179:=n2_
       have BK155:=n3_
       have BK156:=n4_
       have BK157:=n5_
       have HB:=n6_
       clear n0_ n1_ n2_ n3_ n4_ n5_ n6_
       (try clear hb)
       (try clear hb2)
       (try clear hk)
       (try clear hi)
       (try clear ho0)
       obtain ⟨Ao44,co44,eo44⟩:=Kd.R_slice HO179.out
       (first|subst eo44|(injection eo44 with f1_ f2_ f3_;have f4_:=f1_.symm;have f5_:=f3_.symm;clear f1_ f2_ f3_;subst f4_;subst f5_))
       refine hK.out _ _ ⟨(kC BK155.out 0).trans rfl,(kC BK155.out 1).trans rfl,(kC BK156.out 0).trans rfl,(kC BK156.out 1).trans rfl,(kC BK156.out 2).trans rfl,(kC BK157.out 0).trans rfl,(kC BK157.out 1).trans rfl,(kC BK157.out 2).trans rfl,(kC BK157.out 3).trans rfl,(kC BK157.out 4).trans rfl,(kC BK157.out 5).trans rfl,(kC BK157.out 6).trans rfl,(kC BK157.out 7).trans rfl⟩ (fun hHeld => ?_)
       clear hK K
       refine norm_ (a':=?_) ?_ ?_
       rotate_left
       ·show Act.put _ (some 53) _ = _
        simp only [Act.put,sA,sZ,sS,i64_w,i32_w]
        rfl
       refine one_ (i:=8) (N:=some 57) #[tt,tt,tt,tt,tt,tt,tt,tt,tt,tt,tt,tt,tt,ff,ff,ff,ff,ff,ff,ff,ff,ff,ff,ff,ff,ff,ff,ff,ff,ff] rfl rfl (one_of HT_.out (by kernel_rfl)) (by decide) (fun K hK => ?_)
       refine goes_ Try.func14 (by kernel_rfl) rfl #[.agg #[.int .u64 t176,.slice Ao44 t177.length co44],.agg #[.int .u64 a1_0,.bool a1_1,.int .u64 a1_2],.int .u64 a2_1] (by rfl) rfl rfl (by (try simp only [List.map_toArray,List.map_cons,List.map_nil]);first|done|rfl|(simp only [List.length_drop,List.length_take];rfl)) ?_
       with_reducible refine (vision_Counts.calls t176 _ _ t177 a1_0 a1_1 a1_2 a2_1 t180 _ ?side1 ?side2 A39.out).mono ?_
       (case side1 => repeat (first|exact (Kd.R_reads' HO179.out).2.2|(with_reducible refine Kd.C_alloc ?_ _)|(with_reducible refine Kd.C_drewN ?_ _)|(with_reducible refine Kd.C_drew ?_)))
       (case side2 => exact (Kd.R_reads' HO179.out).2.1)
       rintro e w45 ⟨rfl,hb⟩
       refine ⟨_,rfl,?_⟩
       have n0_:=Ak (Kd.R_below (by (with_reducible repeat (first|apply Kd.R_alloc|apply Kd.R_drewN|apply Kd.R_drew));exact HO162.out) hb)
       have n1_:=Ak (Kd.R_below (by (with_reducible repeat (first|apply Kd.R_alloc|apply Kd.R_drewN|apply Kd.R_drew));exact HO167.out) hb)
       have n2_:=Ak (Kd.R_below (by (with_reducible repeat (first|apply Kd.R_alloc|apply Kd.R_drewN|apply Kd.R_drew));exact HO179.out) hb)
       have n3_:=Ak (kB (g:=gb155) (o:=.cells #[.int .u64 a0_0,.slice A0_1 l0_1.length c0_1] 25 (0,0)) (by (with_reducible repeat (first|refine kN ?_ _|refine kD ?_|refine kA ?_ _));exact BK155.out) hb)
       have n4_:=Ak (kB (g:=gb156) (o:=.cells #[.int .u64 a1_0,.bool a1_1,.int .u64 a1_2] 27 (0,0)) (by (with_reducible repeat (first|refine kN ?_ _|refine kD ?_|refine kA ?_ _));exact BK156.out) hb)
       have n5_:=Ak (kB (g:=gb157) (o:=.cells #[.int .u32 a2_0,.int .u64 a2_1,.int .u64 a2_2,.int .i64 a2_3,.int .i64 a2_4,.int .i64 a2_5,.int .i64 a2_6,.int .i64 a2_7] 32 (0,0)) (by (with_reducible repeat (first|refine kN ?_ _|refine kD ?_|refine kA ?_ _));exact BK157.out) hb)
       have n6_:=Ak (below_step (by repeat (first|(with_reducible first|exact HB.out|apply bA|apply bN|apply bD|refine bS ?_ GE155.out|refine bS ?_ GE156.out|refine bS ?_ GE157.out)|exact HB.out)) hb)
       clear HO162
       clear HO167
       clear HO179
       clear BK155
       clear BK156
       clear BK157
       clear HB
       have HO162:=n0_
       have HO167:=n1_
       have HO179:=n2_
       have BK155:=n3_
       have BK156:=n4_
       have BK157:=n5_
       have HB:=n6_
       clear n0_ n1_ n2_ n3_ n4_ n5_ n6_
       (try clear hb)
       (try clear hb2)
       (try clear hk)
       (try clear hi)
       refine hK.out _ _ ⟨(kC BK155.out 0).trans rfl,(kC BK155.out 1).trans rfl,(kC BK156.out 0).trans rfl,(kC BK156.out 1).trans rfl,(kC BK156.out 2).trans rfl,(kC BK157.out 0).trans rfl,(kC BK157.out 1).trans rfl,(kC BK157.out 2).trans rfl,(kC BK157.out 3).trans rfl,(kC BK157.out 4).trans rfl,(kC BK157.out 5).trans rfl,(kC BK157.out 6).trans rfl,(kC BK157.out 7).trans rfl⟩ (fun hHeld => ?_)
       clear hK K
       refine norm_ (a':=?_) ?_ ?_
       rotate_left
       ·show Act.put _ (some 57) _ = _
        simp only [Act.put,sA,sZ,sS,i64_w,i32_w]
        rfl
       refine one_ (i:=13) (N:=some 62) #[tt,tt,tt,tt,tt,tt,tt,tt,tt,tt,tt,tt,tt,tt,ff,ff,ff,ff,ff,ff,ff,ff,ff,ff,ff,ff,ff,ff,ff,ff] rfl rfl (one_of HT_.out (by kernel_rfl)) (by decide) (fun K hK => ?_)
       refine goes_ Try.func15 (by kernel_rfl) rfl #[.agg #[.int .u64 a0_0,.slice A0_1 l0_1.length c0_1],.agg #[.int .u64 a1_0,.bool a1_1,.int .u64 a1_2],.int .u64 a2_1] (by rfl) rfl rfl (by (try simp only [List.map_toArray,List.map_cons,List.map_nil]);first|done|rfl|(simp only [List.length_drop,List.length_take];rfl)) ?_
       with_reducible refine (gazetteerref17_Counts.calls k a0_0 _ _ l0_1 a1_0 a1_1 a1_2 a2_1 t181 _ ?side1 ?side2 A40.out).mono ?_
       (case side1 => repeat (first|exact (Kd.C_below HR0_1.out HB.out)|(with_reducible refine Kd.C_alloc ?_ _)|(with_reducible refine Kd.C_drewN ?_ _)|(with_reducible refine Kd.C_drew ?_)))
       (case side2 => exact HC0_1.out)
       rintro e w46 ⟨rfl,hb⟩
       refine ⟨_,rfl,?_⟩
       have n0_:=Ak (Kd.R_below (by (with_reducible repeat (first|apply Kd.R_alloc|apply Kd.R_drewN|apply Kd.R_drew));exact HO162.out) hb)
       have n1_:=Ak (Kd.R_below (by (with_reducible repeat (first|apply Kd.R_alloc|apply Kd.R_drewN|apply Kd.R_drew));exact HO167.out) hb)
       have n2_:=Ak (Kd.R_below (by (with_reducible repeat (first|apply Kd.R_alloc|apply Kd.R_drewN|apply Kd.R_drew));exact HO179.out) hb)
       have n3_:=Ak (kB (g:=gb155) (o:=.cells #[.int .u64 a0_0,.slice A0_1 l0_1.length c0_1] 25 (0,0)) (by (with_reducible repeat (first|refine kN ?_ _|refine kD ?_|refine kA ?_ _));exact BK155.out) hb)
       have n4_:=Ak (kB (g:=gb156) (o:=.cells #[.int .u64 a1_0,.bool a1_1,.int .u64 a1_2] 27 (0,0)) (by (with_reducible repeat (first|refine kN ?_ _|refine kD ?_|refine kA ?_ _));exact BK156.out) hb)
       have n5_:=Ak (kB (g:=gb157) (o:=.cells #[.int .u32 a2_0,.int .u64 a2_1,.int .u64 a2_2,.int .i64 a2_3,.int .i64 a2_4,.int .i64 a2_5,.int .i64 a2_6,.int .i64 a2_7] 32 (0,0)) (by (with_reducible repeat (first|refine kN ?_ _|refine kD ?_|refine kA ?_ _));exact BK157.out) hb)
       have n6_:=Ak (below_step (by repeat (first|(with_reducible first|exact HB.out|apply bA|apply bN|apply bD|refine bS ?_ GE155.out|refine bS ?_ GE156.out|refine bS ?_ GE157.out)|exact HB.out)) hb)
       clear HO162
       clear HO167
       clear HO179
       clear BK155
       clear BK156
       clear BK157
       clear HB
       have HO162:=n0_
       have HO167:=n1_
       have HO179:=n2_
       have BK155:=n3_
       have BK156:=n4_
       have BK157:=n5_
       have HB:=n6_
       clear n0_ n1_ n2_ n3_ n4_ n5_ n6_
       (try clear hb)
       (try clear hb2)
       (try clear hk)
       (try clear hi)
       refine hK.out _ _ ⟨(kC BK155.out 0).trans rfl,(kC BK155.out 1).trans rfl,(kC BK156.out 0).trans rfl,(kC BK156.out 1).trans rfl,(kC BK156.out 2).trans rfl,(kC BK157.out 0).trans rfl,(kC BK157.out 1).trans rfl,(kC BK157.out 2).trans rfl,(kC BK157.out 3).trans rfl,(kC BK157.out 4).trans rfl,(kC BK157.out 5).trans rfl,(kC BK157.out 6).trans rfl,(kC BK157.out 7).trans rfl⟩ (fun hHeld => ?_)
       clear hK K
       refine norm_ (a':=?_) ?_ ?_
       rotate_left
       ·show Act.put _ (some 62) _ = _
        simp only [Act.put,sA,sZ,sS,i64_w,i32_w]
        rfl
       refine pure_ (i:=14) (N:=some 63) (v:=?_) (a':=?_) #[tt,tt,tt,tt,tt,tt,tt,tt,tt,tt,tt,tt,tt,tt,tt,ff,ff,ff,ff,ff,ff,ff,ff,ff,ff,ff,ff,ff,ff,ff] rfl rfl (any_of HT_.out (by kernel_rfl)) (fun _ _ _ h => h) (Or.inl ⟨by rfl,?_⟩) ?_ ?_
       rotate_left
       ·intro w'
        go_simp
        with_reducible rfl
       rotate_left
       ·simp only [Act.put,sA,sZ,sS,i64_w,i32_w]
        rfl
       refine pure_ (i:=15) (N:=some 64) (v:=?_) (a':=?_) #[tt,tt,tt,tt,tt,tt,tt,tt,tt,tt,tt,tt,tt,tt,tt,tt,ff,ff,ff,ff,ff,ff,ff,ff,ff,ff,ff,ff,ff,ff] rfl rfl (any_of HT_.out (by kernel_rfl)) (fun _ _ _ h => h) (Or.inl ⟨by rfl,?_⟩) ?_ ?_
       rotate_left
       ·intro w'
        go_simp
        with_reducible rfl
       rotate_left
       ·simp only [Act.put,sA,sZ,sS,i64_w,i32_w]
        rfl
       refine pure_ (i:=16) (N:=some 65) (v:=?_) (a':=?_) #[tt,tt,tt,tt,tt,tt,tt,tt,tt,tt,tt,tt,tt,tt,tt,tt,tt,ff,ff,ff,ff,ff,ff,ff,ff,ff,ff,ff,ff,ff] rfl rfl (any_of HT_.out (by kernel_rfl)) (fun _ _ _ h => h) (Or.inl ⟨by rfl,?_⟩) ?_ ?_
       rotate_left
       ·intro w'
        go_simp
        with_reducible rfl
       rotate_left
       ·simp only [Act.put,sA,sZ,sS,i64_w,i32_w]
        rfl
       refine pure_ (i:=17) (N:=some 66) (v:=undef) (a':=?_) #[tt,tt,tt,tt,tt,tt,tt,tt,tt,tt,tt,tt,tt,tt,tt,tt,tt,tt,ff,ff,ff,ff,ff,ff,ff,ff,ff,ff,ff,ff] rfl rfl (any_of HT_.out (by kernel_rfl)) (fun _ _ _ h => h) (Or.inr ⟨by rfl,rfl⟩) ?_ ?_
       rotate_left
       ·simp only [Act.put,sA,sZ,sS,i64_w,i32_w]
        rfl
       refine pure_ (i:=18) (N:=some 67) (v:=undef) (a':=?_) #[tt,tt,tt,tt,tt,tt,tt,tt,tt,tt,tt,tt,tt,tt,tt,tt,tt,tt,tt,ff,ff,ff,ff,ff,ff,ff,ff,ff,ff,ff] rfl rfl (any_of HT_.out (by kernel_rfl)) (fun _ _ _ h => h) (Or.inr ⟨by rfl,rfl⟩) ?_ ?_
       rotate_left
       ·simp only [Act.put,sA,sZ,sS,i64_w,i32_w]
        rfl
       refine pure_ (i:=19) (N:=some 68) (v:=undef) (a':=?_) #[tt,tt,tt,tt,tt,tt,tt,tt,tt,tt,tt,tt,tt,tt,tt,tt,tt,tt,tt,tt,ff,ff,ff,ff,ff,ff,ff,ff,ff,ff] rfl rfl (any_of HT_.out (by kernel_rfl)) (fun _ _ _ h => h) (Or.inr ⟨by rfl,rfl⟩) ?_ ?_
       rotate_left
       ·simp only [Act.put,sA,sZ,sS,i64_w,i32_w]
        rfl
       refine pure_ (i:=20) (N:=some 69) (v:=undef) (a':=?_) #[tt,tt,tt,tt,tt,tt,tt,tt,tt,tt,tt,tt,tt,tt,tt,tt,tt,tt,tt,tt,tt,ff,ff,ff,ff,ff,ff,ff,ff,ff] rfl rfl (any_of HT_.out (by kernel_rfl)) (fun _ _ _ h => h) (Or.inr ⟨by rfl,rfl⟩) ?_ ?_
       rotate_left
       ·simp only [Act.put,sA,sZ,sS,i64_w,i32_w]
        rfl
       refine pure_ (i:=21) (N:=some 70) (v:=undef) (a':=?_) #[tt,tt,tt,tt,tt,tt,tt,tt,tt,tt,tt,tt,tt,tt,tt,tt,tt,tt,tt,tt,tt,tt,ff,ff,ff,ff,ff,ff,ff,ff] rfl rfl (any_of HT_.out (by kernel_rfl)) (fun _ _ _ h => h) (Or.inr ⟨by rfl,rfl⟩) ?_ ?_
       rotate_left
       ·simp only [Act.put,sA,sZ,sS,i64_w,i32_w]
        rfl
       refine pure_ (i:=22) (N:=some 71) (v:=undef) (a':=?_) #[tt,tt,tt,tt,tt,tt,tt,tt,tt,tt,tt,tt,tt,tt,tt,tt,tt,tt,tt,tt,tt,tt,tt,ff,ff,ff,ff,ff,ff,ff] rfl rfl (any_of HT_.out (by kernel_rfl)) (fun _ _ _ h => h) (Or.inr ⟨by rfl,rfl⟩) ?_ ?_
       rotate_left
       ·simp only [Act.put,sA,sZ,sS,i64_w,i32_w]
        rfl
       refine pure_ (i:=23) (N:=some 72) (v:=undef) (a':=?_) #[tt,tt,tt,tt,tt,tt,tt,tt,tt,tt,tt,tt,tt,tt,tt,tt,tt,tt,tt,tt,tt,tt,tt,tt,ff,ff,ff,ff,ff,ff] rfl rfl (any_of HT_.out (by kernel_rfl)) (fun _ _ _ h => h) (Or.inr ⟨by rfl,rfl⟩) ?_ ?_
       rotate_left
       ·simp only [Act.put,sA,sZ,sS,i64_w,i32_w]
        rfl
       refine pure_ (i:=24) (N:=some 73) (v:=undef) (a':=?_) #[tt,tt,tt,tt,tt,tt,tt,tt,tt,tt,tt,tt,tt,tt,tt,tt,tt,tt,tt,tt,tt,tt,tt,tt,tt,ff,ff,ff,ff,ff] rfl rfl (any_of HT_.out (by kernel_rfl)) (fun _ _ _ h => h) (Or.inr ⟨by rfl,rfl⟩) ?_ ?_
       rotate_left
       ·simp only [Act.put,sA,sZ,sS,i64_w,i32_w]
        rfl
       refine pure_ (i:=25) (N:=some 74) (v:=undef) (a':=?_) #[tt,tt,tt,tt,tt,tt,tt,tt,tt,tt,tt,tt,tt,tt,tt,tt,tt,tt,tt,tt,tt,tt,tt,tt,tt,tt,ff,ff,ff,ff] rfl rfl (any_of HT_.out (by kernel_rfl)) (fun _ _ _ h => h) (Or.inr ⟨by rfl,rfl⟩) ?_ ?_
       rotate_left
       ·simp only [Act.put,sA,sZ,sS,i64_w,i32_w]
        rfl
       refine pure_ (i:=26) (N:=some 75) (v:=undef) (a':=?_) #[tt,tt,tt,tt,tt,tt,tt,tt,tt,tt,tt,tt,tt,tt,tt,tt,tt,tt,tt,tt,tt,tt,tt,tt,tt,tt,tt,ff,ff,ff] rfl rfl (any_of HT_.out (by kernel_rfl)) (fun _ _ _ h => h) (Or.inr ⟨by rfl,rfl⟩) ?_ ?_
       rotate_left
       ·simp only [Act.put,sA,sZ,sS,i64_w,i32_w]
        rfl
       refine pure_ (i:=27) (N:=some 76) (v:=undef) (a':=?_) #[tt,tt,tt,tt,tt,tt,tt,tt,tt,tt,tt,tt,tt,tt,tt,tt,tt,tt,tt,tt,tt,tt,tt,tt,tt,tt,tt,tt,ff,ff] rfl rfl (any_of HT_.out (by kernel_rfl)) (fun _ _ _ h => h) (Or.inr ⟨by rfl,rfl⟩) ?_ ?_
       rotate_left
       ·simp only [Act.put,sA,sZ,sS,i64_w,i32_w]
        rfl
       refine pure_ (i:=28) (N:=some 77) (v:=undef) (a':=?_) #[tt,tt,tt,tt,tt,tt,tt,tt,tt,tt,tt,tt,tt,tt,tt,tt,tt,tt,tt,tt,tt,tt,tt,tt,tt,tt,tt,tt,tt,ff] rfl rfl (any_of HT_.out (by kernel_rfl)) (fun _ _ _ h => h) (Or.inr ⟨by rfl,rfl⟩) ?_ ?_
       rotate_left
       ·simp only [Act.put,sA,sZ,sS,i64_w,i32_w]
        rfl
       refine pure_ (i:=29) (N:=some 78) (v:=?_) (a':=?_) #[tt,tt,tt,tt,tt,tt,tt,tt,tt,tt,tt,tt,tt,tt,tt,tt,tt,tt,tt,tt,tt,tt,tt,tt,tt,tt,tt,tt,tt,tt] rfl rfl (any_of HT_.out (by kernel_rfl)) (fun _ _ _ h => h) (Or.inl ⟨by rfl,?_⟩) ?_ ?_
       rotate_left
       ·intro w'
        go_simp
        with_reducible rfl
       rotate_left
       ·simp only [Act.put,sA,sZ,sS,i64_w,i32_w]
        rfl
       refine done_ (done_of HT_.out (by kernel_rfl)) ?_
       try go_wp2
       go_meet
       case rel => exact ⟨_,(true),(by first|rfl|(simp;done)|(simp [*];done)),H',⟨by first|omega|exact Nat.le_refl _⟩,⟨by (with_reducible repeat (first|refine kN ?_ _|refine kD ?_|refine kA ?_ _));exact BK155.out⟩,⟨by (with_reducible repeat (first|refine kN ?_ _|refine kD ?_|refine kA ?_ _));exact BK156.out⟩,⟨by (with_reducible repeat (first|refine kN ?_ _|refine kD ?_|refine kA ?_ _));exact BK157.out⟩,⟨by repeat (first|(with_reducible first|exact HB.out|apply bA|apply bN|apply bD|refine bS ?_ GE155.out|refine bS ?_ GE156.out|refine bS ?_ GE157.out)|exact HB.out)⟩⟩
      ·rw [if_neg c41] at H
       have c41b0 : (t180 != t181) = false:=by simpa using c41
       (try (have c41b1 : decide (t180 = t181) = true:=by simpa using c41))
       (try (have c41b2 : (t180 == t181) = true:=by simpa using c41))
       clear c41
       replace H:=Option.bind_eq_some_iff.mp H
       obtain ⟨⟨t182,t183⟩,A470,H⟩:=H
       replace H : ((vision_Counts.f t182 t183 a1_0 a1_1 a1_2 a2_2).bind fun t186 => ((gazetteerref17_Counts.f k a0_0 l0_1 a1_0 a1_1 a1_2 a2_2).bind fun t187 => (gazetteerlaw17_VisionCounts.j0 k t168 t169 (t186 != t187) a0_0 l0_1 a1_0 a1_1 a1_2 a2_0 a2_1 a2_2 a2_3 a2_4 a2_5 a2_6 a2_7))) = some r:=H
       have A47:=Ak A470
       clear A470
       replace H:=Option.bind_eq_some_iff.mp H
       obtain ⟨t186,A480,H⟩:=H
       replace H : ((gazetteerref17_Counts.f k a0_0 l0_1 a1_0 a1_1 a1_2 a2_2).bind fun t187 => (gazetteerlaw17_VisionCounts.j0 k t168 t169 (t186 != t187) a0_0 l0_1 a1_0 a1_1 a1_2 a2_0 a2_1 a2_2 a2_3 a2_4 a2_5 a2_6 a2_7)) = some r:=H
       have A48:=Ak A480
       clear A480
       replace H:=Option.bind_eq_some_iff.mp H
       obtain ⟨t187,A490,H⟩:=H
       replace H : (gazetteerlaw17_VisionCounts.j0 k t168 t169 (t186 != t187) a0_0 l0_1 a1_0 a1_1 a1_2 a2_0 a2_1 a2_2 a2_3 a2_4 a2_5 a2_6 a2_7) = some r:=H
       have A49:=Ak A490
       clear A490
       have H':=Ak H
       clear H
       try go_wp2
       have n0_:=Ak (Kd.R_drew HO162.out)
       have n1_:=Ak (Kd.R_drew HO167.out)
       have n2_:=Ak (kD BK155.out)
       have n3_:=Ak (kD BK156.out)
       have n4_:=Ak (kD BK157.out)
       have n5_:=Ak (bD HB.out)
       clear HO162
       clear HO167
       clear BK155
       clear BK156
       clear BK157
       clear HB
       have HO162:=n0_
       have HO167:=n1_
       have BK155:=n2_
       have BK156:=n3_
       have BK157:=n4_
       have HB:=n5_
       clear n0_ n1_ n2_ n3_ n4_ n5_
       refine start_ (n:=30) (S:=fun w' => w'.cell? ⟨gb155,0,none⟩ = some (.int .u64 a0_0)∧w'.cell? ⟨gb155,1,none⟩ = some (.slice A0_1 l0_1.length c0_1)∧w'.cell? ⟨gb156,0,none⟩ = some (.int .u64 a1_0)∧w'.cell? ⟨gb156,1,none⟩ = some (.bool a1_1)∧w'.cell? ⟨gb156,2,none⟩ = some (.int .u64 a1_2)∧w'.cell? ⟨gb157,0,none⟩ = some (.int .u32 a2_0)∧w'.cell? ⟨gb157,1,none⟩ = some (.int .u64 a2_1)∧w'.cell? ⟨gb157,2,none⟩ = some (.int .u64 a2_2)∧w'.cell? ⟨gb157,3,none⟩ = some (.int .i64 a2_3)∧w'.cell? ⟨gb157,4,none⟩ = some (.int .i64 a2_4)∧w'.cell? ⟨gb157,5,none⟩ = some (.int .i64 a2_5)∧w'.cell? ⟨gb157,6,none⟩ = some (.int .i64 a2_6)∧w'.cell? ⟨gb157,7,none⟩ = some (.int .i64 a2_7)) (ds:=[]) #[ff,ff,ff,ff,ff,ff,ff,ff,ff,ff,ff,ff,ff,ff,ff,ff,ff,ff,ff,ff,ff,ff,ff,ff,ff,ff,ff,ff,ff,ff] (by kernel_rfl) rfl rfl ⟨(kC BK155.out 0).trans rfl,(kC BK155.out 1).trans rfl,(kC BK156.out 0).trans rfl,(kC BK156.out 1).trans rfl,(kC BK156.out 2).trans rfl,(kC BK157.out 0).trans rfl,(kC BK157.out 1).trans rfl,(kC BK157.out 2).trans rfl,(kC BK157.out 3).trans rfl,(kC BK157.out 4).trans rfl,(kC BK157.out 5).trans rfl,(kC BK157.out 6).trans rfl,(kC BK157.out 7).trans rfl⟩ (fun hHeld => ?_);refine with_tabW gazetteerlaw17_VisionCounts.tab9 gazetteerlaw17_VisionCounts.bits9 (fun HT_ HW_ => ?_)
       generalize w36.drew = w50 at HO162 HO167 BK155 BK156 BK157 HB hHeld ⊢
       refine pure_ (i:=0) (N:=some 49) (v:=?_) (a':=?_) #[tt,ff,ff,ff,ff,ff,ff,ff,ff,ff,ff,ff,ff,ff,ff,ff,ff,ff,ff,ff,ff,ff,ff,ff,ff,ff,ff,ff,ff,ff] rfl rfl (any_of HT_.out (by kernel_rfl)) (fun _ _ _ h => h) (Or.inl ⟨by rfl,?_⟩) ?_ ?_
       rotate_left
       ·intro w'
        go_simp
        with_reducible rfl
       rotate_left
       ·simp only [Act.put,sA,sZ,sS,i64_w,i32_w]
        rfl
       refine pure_ (i:=1) (N:=some 50) (v:=?_) (a':=?_) #[tt,tt,ff,ff,ff,ff,ff,ff,ff,ff,ff,ff,ff,ff,ff,ff,ff,ff,ff,ff,ff,ff,ff,ff,ff,ff,ff,ff,ff,ff] rfl rfl (any_of HT_.out (by kernel_rfl)) (fun _ _ _ h => h) (Or.inl ⟨by rfl,?_⟩) ?_ ?_
       rotate_left
       ·intro w'
        go_simp
        with_reducible rfl
       rotate_left
       ·simp only [Act.put,sA,sZ,sS,i64_w,i32_w]
        rfl
       refine pure_ (i:=2) (N:=some 51) (v:=?_) (a':=?_) #[tt,tt,tt,ff,ff,ff,ff,ff,ff,ff,ff,ff,ff,ff,ff,ff,ff,ff,ff,ff,ff,ff,ff,ff,ff,ff,ff,ff,ff,ff] rfl rfl (any_of HT_.out (by kernel_rfl)) (fun _ _ _ h => h) (Or.inl ⟨by rfl,?_⟩) ?_ ?_
       rotate_left
       ·intro w'
        go_simp
        with_reducible rfl
       rotate_left
       ·simp only [Act.put,sA,sZ,sS,i64_w,i32_w]
        rfl
       refine pure_ (i:=6) (N:=some 55) (v:=?_) (a':=?_) #[tt,tt,tt,ff,ff,ff,tt,ff,ff,ff,ff,ff,ff,ff,ff,ff,ff,ff,ff,ff,ff,ff,ff,ff,ff,ff,ff,ff,ff,ff] rfl rfl (any_of HT_.out (by kernel_rfl)) (fun _ _ _ h => h) (Or.inl ⟨by rfl,?_⟩) ?_ ?_
       rotate_left
       ·intro w'
        go_simp
        with_reducible rfl
       rotate_left
       ·simp only [Act.put,sA,sZ,sS,i64_w,i32_w]
        rfl
       refine pure_ (i:=11) (N:=some 60) (v:=?_) (a':=?_) #[tt,tt,tt,ff,ff,ff,tt,ff,ff,ff,ff,tt,ff,ff,ff,ff,ff,ff,ff,ff,ff,ff,ff,ff,ff,ff,ff,ff,ff,ff] rfl rfl (any_of HT_.out (by kernel_rfl)) (fun _ _ _ h => h) (Or.inl ⟨by rfl,?_⟩) ?_ ?_
       rotate_left
       ·intro w'
        go_simp
        with_reducible rfl
       rotate_left
       ·simp only [Act.put,sA,sZ,sS,i64_w,i32_w]
        rfl
       refine take_ (i:=3) (N:=some 52) (v:=?_) (a':=?_) #[tt,tt,tt,tt,ff,ff,tt,ff,ff,ff,ff,tt,ff,ff,ff,ff,ff,ff,ff,ff,ff,ff,ff,ff,ff,ff,ff,ff,ff,ff] rfl rfl (take_ofW HT_.out HW_.out (by kernel_rfl)) (fun _ _ _ h => h) (Or.inl ⟨by rfl,?_⟩) hHeld ?_ ?_
       rotate_left
       ·rintro w' ⟨s0,s1,s2,s3,s4,s5,s6,s7,s8,s9,s10,s11,s12⟩
        go_simp
        with_reducible rfl
       rotate_left
       ·simp only [Act.put,sA,sZ,sS,i64_w,i32_w]
        rfl
       refine take_ (i:=5) (N:=some 54) (v:=?_) (a':=?_) #[tt,tt,tt,tt,ff,tt,tt,ff,ff,ff,ff,tt,ff,ff,ff,ff,ff,ff,ff,ff,ff,ff,ff,ff,ff,ff,ff,ff,ff,ff] rfl rfl (take_ofW HT_.out HW_.out (by kernel_rfl)) (fun _ _ _ h => h) (Or.inl ⟨by rfl,?_⟩) hHeld ?_ ?_
       rotate_left
       ·rintro w' ⟨s0,s1,s2,s3,s4,s5,s6,s7,s8,s9,s10,s11,s12⟩
        go_simp
        with_reducible rfl
       rotate_left
       ·simp only [Act.put,sA,sZ,sS,i64_w,i32_w]
        rfl
       refine take_ (i:=7) (N:=some 56) (v:=?_) (a':=?_) #[tt,tt,tt,tt,ff,tt,tt,tt,ff,ff,ff,tt,ff,ff,ff,ff,ff,ff,ff,ff,ff,ff,ff,ff,ff,ff,ff,ff,ff,ff] rfl rfl (take_ofW HT_.out HW_.out (by kernel_rfl)) (fun _ _ _ h => h) (Or.inl ⟨by rfl,?_⟩) hHeld ?_ ?_
       rotate_left
       ·rintro w' ⟨s0,s1,s2,s3,s4,s5,s6,s7,s8,s9,s10,s11,s12⟩
        go_simp
        with_reducible rfl
       rotate_left
       ·simp only [Act.put,sA,sZ,sS,i64_w,i32_w]
        rfl
       refine take_ (i:=9) (N:=some 58) (v:=?_) (a':=?_) #[tt,tt,tt,tt,ff,tt,tt,tt,ff,tt,ff,tt,ff,ff,ff,ff,ff,ff,ff,ff,ff,ff,ff,ff,ff,ff,ff,ff,ff,ff] rfl rfl (take_ofW HT_.out HW_.out (by kernel_rfl)) (fun _ _ _ h => h) (Or.inl ⟨by rfl,?_⟩) hHeld ?_ ?_
       rotate_left
       ·rintro w' ⟨s0,s1,s2,s3,s4,s5,s6,s7,s8,s9,s10,s11,s12⟩
        go_simp
        with_reducible rfl
       rotate_left
       ·simp only [Act.put,sA,sZ,sS,i64_w,i32_w]
        rfl
       refine take_ (i:=10) (N:=some 59) (v:=?_) (a':=?_) #[tt,tt,tt,tt,ff,tt,tt,tt,ff,tt,tt,tt,ff,ff,ff,ff,ff,ff,ff,ff,ff,ff,ff,ff,ff,ff,ff,ff,ff,ff] rfl rfl (take_ofW HT_.out HW_.out (by kernel_rfl)) (fun _ _ _ h => h) (Or.inl ⟨by rfl,?_⟩) hHeld ?_ ?_
       rotate_left
       ·rintro w' ⟨s0,s1,s2,s3,s4,s5,s6,s7,s8,s9,s10,s11,s12⟩
        go_simp
        with_reducible rfl
       rotate_left
       ·simp only [Act.put,sA,sZ,sS,i64_w,i32_w]
        rfl
       refine take_ (i:=12) (N:=some 61) (v:=?_) (a':=?_) #[tt,tt,tt,tt,ff,tt,tt,tt,ff,tt,tt,tt,tt,ff,ff,ff,ff,ff,ff,ff,ff,ff,ff,ff,ff,ff,ff,ff,ff,ff] rfl rfl (take_ofW HT_.out HW_.out (by kernel_rfl)) (fun _ _ _ h => h) (Or.inl ⟨by rfl,?_⟩) hHeld ?_ ?_
       rotate_left
       ·rintro w' ⟨s0,s1,s2,s3,s4,s5,s6,s7,s8,s9,s10,s11,s12⟩
        go_simp
        with_reducible rfl
       rotate_left
       ·simp only [Act.put,sA,sZ,sS,i64_w,i32_w]
        rfl
       refine one_ (i:=4) (N:=some 53) #[tt,tt,tt,tt,tt,tt,tt,tt,ff,tt,tt,tt,tt,ff,ff,ff,ff,ff,ff,ff,ff,ff,ff,ff,ff,ff,ff,ff,ff,ff] rfl rfl (one_of HT_.out (by kernel_rfl)) (by decide) (fun K hK => ?_)
       refine goes_ Try.func11 (by kernel_rfl) rfl #[.agg #[.int .u64 a0_0,.slice A0_1 l0_1.length c0_1]] (by rfl) rfl rfl (by (try simp only [List.map_toArray,List.map_cons,List.map_nil]);first|done|rfl|(simp only [List.length_drop,List.length_take];rfl)) ?_
       with_reducible refine (gazetteerlaw17_copied.calls a0_0 _ _ l0_1 t176 t177 _ ?side1 ?side2 A38.out).mono ?_
       (case side1 => repeat (first|exact (Kd.C_below HR0_1.out HB.out)|(with_reducible refine Kd.C_alloc ?_ _)|(with_reducible refine Kd.C_drewN ?_ _)|(with_reducible refine Kd.C_drew ?_)))
       (case side2 => exact HC0_1.out)
       rintro e w51 ⟨v178,rfl,ho0,hb⟩
       refine ⟨_,rfl,?_⟩
       have n0_:=Ak (Kd.R_elder' (by (with_reducible repeat (first|apply Kd.R_alloc|apply Kd.R_drewN|apply Kd.R_drew));exact HO162.out) (Kd.R_base ho0) hb)
       have n1_:=Ak (Kd.R_elder' (by (with_reducible repeat (first|apply Kd.R_alloc|apply Kd.R_drewN|apply Kd.R_drew));exact HO167.out) (Kd.R_base ho0) hb)
       have n2_:=Ak (Kd.R_lower (Kd.R_new' (Kd.R_new' ho0 (Kd.R_lt (by (with_reducible repeat (first|apply Kd.R_alloc|apply Kd.R_drewN|apply Kd.R_drew));exact HO162.out))) (Kd.R_lt (by (with_reducible repeat (first|apply Kd.R_alloc|apply Kd.R_drewN|apply Kd.R_drew));exact HO167.out))) (below_size (by repeat (first|(with_reducible first|exact HB.out|apply bA|apply bN|apply bD|refine bS ?_ GE155.out|refine bS ?_ GE156.out|refine bS ?_ GE157.out)|exact HB.out))))
       have n3_:=Ak (kB (g:=gb155) (o:=.cells #[.int .u64 a0_0,.slice A0_1 l0_1.length c0_1] 25 (0,0)) (by (with_reducible repeat (first|refine kN ?_ _|refine kD ?_|refine kA ?_ _));exact BK155.out) hb)
       have n4_:=Ak (kB (g:=gb156) (o:=.cells #[.int .u64 a1_0,.bool a1_1,.int .u64 a1_2] 27 (0,0)) (by (with_reducible repeat (first|refine kN ?_ _|refine kD ?_|refine kA ?_ _));exact BK156.out) hb)
       have n5_:=Ak (kB (g:=gb157) (o:=.cells #[.int .u32 a2_0,.int .u64 a2_1,.int .u64 a2_2,.int .i64 a2_3,.int .i64 a2_4,.int .i64 a2_5,.int .i64 a2_6,.int .i64 a2_7] 32 (0,0)) (by (with_reducible repeat (first|refine kN ?_ _|refine kD ?_|refine kA ?_ _));exact BK157.out) hb)
       have n6_:=Ak (below_step (by repeat (first|(with_reducible first|exact HB.out|apply bA|apply bN|apply bD|refine bS ?_ GE155.out|refine bS ?_ GE156.out|refine bS ?_ GE157.out)|exact HB.out)) hb)
       clear HO162
       clear HO167
       clear BK155
       clear BK156
       clear BK157
       clear HB
       have HO162:=n0_
       have HO167:=n1_
       have HO179:=n2_
       have BK155:=n3_
       have BK156:=n4_
       have BK157:=n5_
       have HB:=n6_
       clear n0_ n1_ n2_ n3_ n4_ n5_ n6_
       (try clear hb)
       (try clear hb2)
       (try clear hk)
       (try clear hi)
       (try clear ho0)
       obtain ⟨Ao52,co52,eo52⟩:=Kd.R_slice HO179.out
       (first|subst eo52|(injection eo52 with f1_ f2_ f3_;have f4_:=f1_.symm;have f5_:=f3_.symm;clear f1_ f2_ f3_;subst f4_;subst f5_))
       refine hK.out _ _ ⟨(kC BK155.out 0).trans rfl,(kC BK155.out 1).trans rfl,(kC BK156.out 0).trans rfl,(kC BK156.out 1).trans rfl,(kC BK156.out 2).trans rfl,(kC BK157.out 0).trans rfl,(kC BK157.out 1).trans rfl,(kC BK157.out 2).trans rfl,(kC BK157.out 3).trans rfl,(kC BK157.out 4).trans rfl,(kC BK157.out 5).trans rfl,(kC BK157.out 6).trans rfl,(kC BK157.out 7).trans rfl⟩ (fun hHeld => ?_)
       clear hK K
       refine norm_ (a':=?_) ?_ ?_
       rotate_left
       ·show Act.put _ (some 53) _ = _
        simp only [Act.put,sA,sZ,sS,i64_w,i32_w]
        rfl
       refine one_ (i:=8) (N:=some 57) #[tt,tt,tt,tt,tt,tt,tt,tt,tt,tt,tt,tt,tt,ff,ff,ff,ff,ff,ff,ff,ff,ff,ff,ff,ff,ff,ff,ff,ff,ff] rfl rfl (one_of HT_.out (by kernel_rfl)) (by decide) (fun K hK => ?_)
       refine goes_ Try.func14 (by kernel_rfl) rfl #[.agg #[.int .u64 t176,.slice Ao52 t177.length co52],.agg #[.int .u64 a1_0,.bool a1_1,.int .u64 a1_2],.int .u64 a2_1] (by rfl) rfl rfl (by (try simp only [List.map_toArray,List.map_cons,List.map_nil]);first|done|rfl|(simp only [List.length_drop,List.length_take];rfl)) ?_
       with_reducible refine (vision_Counts.calls t176 _ _ t177 a1_0 a1_1 a1_2 a2_1 t180 _ ?side1 ?side2 A39.out).mono ?_
       (case side1 => repeat (first|exact (Kd.R_reads' HO179.out).2.2|(with_reducible refine Kd.C_alloc ?_ _)|(with_reducible refine Kd.C_drewN ?_ _)|(with_reducible refine Kd.C_drew ?_)))
       (case side2 => exact (Kd.R_reads' HO179.out).2.1)
       rintro e w53 ⟨rfl,hb⟩
       refine ⟨_,rfl,?_⟩
       have n0_:=Ak (Kd.R_below (by (with_reducible repeat (first|apply Kd.R_alloc|apply Kd.R_drewN|apply Kd.R_drew));exact HO162.out) hb)
       have n1_:=Ak (Kd.R_below (by (with_reducible repeat (first|apply Kd.R_alloc|apply Kd.R_drewN|apply Kd.R_drew));exact HO167.out) hb)
       have n2_:=Ak (Kd.R_below (by (with_reducible repeat (first|apply Kd.R_alloc|apply Kd.R_drewN|apply Kd.R_drew));exact HO179.out) hb)
       have n3_:=Ak (kB (g:=gb155) (o:=.cells #[.int .u64 a0_0,.slice A0_1 l0_1.length c0_1] 25 (0,0)) (by (with_reducible repeat (first|refine kN ?_ _|refine kD ?_|refine kA ?_ _));exact BK155.out) hb)
       have n4_:=Ak (kB (g:=gb156) (o:=.cells #[.int .u64 a1_0,.bool a1_1,.int .u64 a1_2] 27 (0,0)) (by (with_reducible repeat (first|refine kN ?_ _|refine kD ?_|refine kA ?_ _));exact BK156.out) hb)
       have n5_:=Ak (kB (g:=gb157) (o:=.cells #[.int .u32 a2_0,.int .u64 a2_1,.int .u64 a2_2,.int .i64 a2_3,.int .i64 a2_4,.int .i64 a2_5,.int .i64 a2_6,.int .i64 a2_7] 32 (0,0)) (by (with_reducible repeat (first|refine kN ?_ _|refine kD ?_|refine kA ?_ _));exact BK157.out) hb)
       have n6_:=Ak (below_step (by repeat (first|(with_reducible first|exact HB.out|apply bA|apply bN|apply bD|refine bS ?_ GE155.out|refine bS ?_ GE156.out|refine bS ?_ GE157.out)|exact HB.out)) hb)
       clear HO162
       clear HO167
       clear HO179
       clear BK155
       clear BK156
       clear BK157
       clear HB
       have HO162:=n0_
       have HO167:=n1_
       have HO179:=n2_
       have BK155:=n3_
       have BK156:=n4_
       have BK157:=n5_
       have HB:=n6_
       clear n0_ n1_ n2_ n3_ n4_ n5_ n6_
       (try clear hb)
       (try clear hb2)
       (try clear hk)
       (try clear hi)
       refine hK.out _ _ ⟨(kC BK155.out 0).trans rfl,(kC BK155.out 1).trans rfl,(kC BK156.out 0).trans rfl,(kC BK156.out 1).trans rfl,(kC BK156.out 2).trans rfl,(kC BK157.out 0).trans rfl,(kC BK157.out 1).trans rfl,(kC BK157.out 2).trans rfl,(kC BK157.out 3).trans rfl,(kC BK157.out 4).trans rfl,(kC BK157.out 5).trans rfl,(kC BK157.out 6).trans rfl,(kC BK157.out 7).trans rfl⟩ (fun hHeld => ?_)
       clear hK K
       refine norm_ (a':=?_) ?_ ?_
       rotate_left
       ·show Act.put _ (some 57) _ = _
        simp only [Act.put,sA,sZ,sS,i64_w,i32_w]
        rfl
       refine one_ (i:=13) (N:=some 62) #[tt,tt,tt,tt,tt,tt,tt,tt,tt,tt,tt,tt,tt,tt,ff,ff,ff,ff,ff,ff,ff,ff,ff,ff,ff,ff,ff,ff,ff,ff] rfl rfl (one_of HT_.out (by kernel_rfl)) (by decide) (fun K hK => ?_)
       refine goes_ Try.func15 (by kernel_rfl) rfl #[.agg #[.int .u64 a0_0,.slice A0_1 l0_1.length c0_1],.agg #[.int .u64 a1_0,.bool a1_1,.int .u64 a1_2],.int .u64 a2_1] (by rfl) rfl rfl (by (try simp only [List.map_toArray,List.map_cons,List.map_nil]);first|done|rfl|(simp only [List.length_drop,List.length_take];rfl)) ?_
       with_reducible refine (gazetteerref17_Counts.calls k a0_0 _ _ l0_1 a1_0 a1_1 a1_2 a2_1 t181 _ ?side1 ?side2 A40.out).mono ?_
       (case side1 => repeat (first|exact (Kd.C_below HR0_1.out HB.out)|(with_reducible refine Kd.C_alloc ?_ _)|(with_reducible refine Kd.C_drewN ?_ _)|(with_reducible refine Kd.C_drew ?_)))
       (case side2 => exact HC0_1.out)
       rintro e w54 ⟨rfl,hb⟩
       refine ⟨_,rfl,?_⟩
       have n0_:=Ak (Kd.R_below (by (with_reducible repeat (first|apply Kd.R_alloc|apply Kd.R_drewN|apply Kd.R_drew));exact HO162.out) hb)
       have n1_:=Ak (Kd.R_below (by (with_reducible repeat (first|apply Kd.R_alloc|apply Kd.R_drewN|apply Kd.R_drew));exact HO167.out) hb)
       have n2_:=Ak (Kd.R_below (by (with_reducible repeat (first|apply Kd.R_alloc|apply Kd.R_drewN|apply Kd.R_drew));exact HO179.out) hb)
       have n3_:=Ak (kB (g:=gb155) (o:=.cells #[.int .u64 a0_0,.slice A0_1 l0_1.length c0_1] 25 (0,0)) (by (with_reducible repeat (first|refine kN ?_ _|refine kD ?_|refine kA ?_ _));exact BK155.out) hb)
       have n4_:=Ak (kB (g:=gb156) (o:=.cells #[.int .u64 a1_0,.bool a1_1,.int .u64 a1_2] 27 (0,0)) (by (with_reducible repeat (first|refine kN ?_ _|refine kD ?_|refine kA ?_ _));exact BK156.out) hb)
       have n5_:=Ak (kB (g:=gb157) (o:=.cells #[.int .u32 a2_0,.int .u64 a2_1,.int .u64 a2_2,.int .i64 a2_3,.int .i64 a2_4,.int .i64 a2_5,.int .i64 a2_6,.int .i64 a2_7] 32 (0,0)) (by (with_reducible repeat (first|refine kN ?_ _|refine kD ?_|refine kA ?_ _));exact BK157.out) hb)
       have n6_:=Ak (below_step (by repeat (first|(with_reducible first|exact HB.out|apply bA|apply bN|apply bD|refine bS ?_ GE155.out|refine bS ?_ GE156.out|refine bS ?_ GE157.out)|exact HB.out)) hb)
       clear HO162
       clear HO167
       clear HO179
       clear BK155
       clear BK156
       clear BK157
       clear HB
       have HO162:=n0_
       have HO167:=n1_
       have HO179:=n2_
       have BK155:=n3_
       have BK156:=n4_
       have BK157:=n5_
       have HB:=n6_
       clear n0_ n1_ n2_ n3_ n4_ n5_ n6_
       (try clear hb)
       (try clear hb2)
       (try clear hk)
       (try clear hi)
       refine hK.out _ _ ⟨(kC BK155.out 0).trans rfl,(kC BK155.out 1).trans rfl,(kC BK156.out 0).trans rfl,(kC BK156.out 1).trans rfl,(kC BK156.out 2).trans rfl,(kC BK157.out 0).trans rfl,(kC BK157.out 1).trans rfl,(kC BK157.out 2).trans rfl,(kC BK157.out 3).trans rfl,(kC BK157.out 4).trans rfl,(kC BK157.out 5).trans rfl,(kC BK157.out 6).trans rfl,(kC BK157.out 7).trans rfl⟩ (fun hHeld => ?_)
       clear hK K
       refine norm_ (a':=?_) ?_ ?_
       rotate_left
       ·show Act.put _ (some 62) _ = _
        simp only [Act.put,sA,sZ,sS,i64_w,i32_w]
        rfl
       refine pure_ (i:=14) (N:=some 63) (v:=?_) (a':=?_) #[tt,tt,tt,tt,tt,tt,tt,tt,tt,tt,tt,tt,tt,tt,tt,ff,ff,ff,ff,ff,ff,ff,ff,ff,ff,ff,ff,ff,ff,ff] rfl rfl (any_of HT_.out (by kernel_rfl)) (fun _ _ _ h => h) (Or.inl ⟨by rfl,?_⟩) ?_ ?_
       rotate_left
       ·intro w'
        go_simp
        with_reducible rfl
       rotate_left
       ·simp only [Act.put,sA,sZ,sS,i64_w,i32_w]
        rfl
       refine pure_ (i:=15) (N:=some 64) (v:=?_) (a':=?_) #[tt,tt,tt,tt,tt,tt,tt,tt,tt,tt,tt,tt,tt,tt,tt,tt,ff,ff,ff,ff,ff,ff,ff,ff,ff,ff,ff,ff,ff,ff] rfl rfl (any_of HT_.out (by kernel_rfl)) (fun _ _ _ h => h) (Or.inl ⟨by rfl,?_⟩) ?_ ?_
       rotate_left
       ·intro w'
        go_simp
        with_reducible rfl
       rotate_left
       ·simp only [Act.put,sA,sZ,sS,i64_w,i32_w]
        rfl
       refine pure_ (i:=16) (N:=some 65) (v:=?_) (a':=?_) #[tt,tt,tt,tt,tt,tt,tt,tt,tt,tt,tt,tt,tt,tt,tt,tt,tt,ff,ff,ff,ff,ff,ff,ff,ff,ff,ff,ff,ff,ff] rfl rfl (any_of HT_.out (by kernel_rfl)) (fun _ _ _ h => h) (Or.inl ⟨by rfl,?_⟩) ?_ ?_
       rotate_left
       ·intro w'
        go_simp
        with_reducible rfl
       rotate_left
       ·simp only [Act.put,sA,sZ,sS,i64_w,i32_w]
        rfl
       refine pure_ (i:=20) (N:=some 69) (v:=?_) (a':=?_) #[tt,tt,tt,tt,tt,tt,tt,tt,tt,tt,tt,tt,tt,tt,tt,tt,tt,ff,ff,ff,tt,ff,ff,ff,ff,ff,ff,ff,ff,ff] rfl rfl (any_of HT_.out (by kernel_rfl)) (fun _ _ _ h => h) (Or.inl ⟨by rfl,?_⟩) ?_ ?_
       rotate_left
       ·intro w'
        go_simp
        with_reducible rfl
       rotate_left
       ·simp only [Act.put,sA,sZ,sS,i64_w,i32_w]
        rfl
       refine pure_ (i:=25) (N:=some 74) (v:=?_) (a':=?_) #[tt,tt,tt,tt,tt,tt,tt,tt,tt,tt,tt,tt,tt,tt,tt,tt,tt,ff,ff,ff,tt,ff,ff,ff,ff,tt,ff,ff,ff,ff] rfl rfl (any_of HT_.out (by kernel_rfl)) (fun _ _ _ h => h) (Or.inl ⟨by rfl,?_⟩) ?_ ?_
       rotate_left
       ·intro w'
        go_simp
        with_reducible rfl
       rotate_left
       ·simp only [Act.put,sA,sZ,sS,i64_w,i32_w]
        rfl
       refine take_ (i:=17) (N:=some 66) (v:=?_) (a':=?_) #[tt,tt,tt,tt,tt,tt,tt,tt,tt,tt,tt,tt,tt,tt,tt,tt,tt,tt,ff,ff,tt,ff,ff,ff,ff,tt,ff,ff,ff,ff] rfl rfl (take_ofW HT_.out HW_.out (by kernel_rfl)) (fun _ _ _ h => h) (Or.inl ⟨by rfl,?_⟩) hHeld ?_ ?_
       rotate_left
       ·rintro w' ⟨s0,s1,s2,s3,s4,s5,s6,s7,s8,s9,s10,s11,s12⟩
        go_simp
        with_reducible rfl
       rotate_left
       ·simp only [Act.put,sA,sZ,sS,i64_w,i32_w]
        rfl
       refine take_ (i:=19) (N:=some 68) (v:=?_) (a':=?_) #[tt,tt,tt,tt,tt,tt,tt,tt,tt,tt,tt,tt,tt,tt,tt,tt,tt,tt,ff,tt,tt,ff,ff,ff,ff,tt,ff,ff,ff,ff] rfl rfl (take_ofW HT_.out HW_.out (by kernel_rfl)) (fun _ _ _ h => h) (Or.inl ⟨by rfl,?_⟩) hHeld ?_ ?_
       rotate_left
       ·rintro w' ⟨s0,s1,s2,s3,s4,s5,s6,s7,s8,s9,s10,s11,s12⟩
        go_simp
        with_reducible rfl
       rotate_left
       ·simp only [Act.put,sA,sZ,sS,i64_w,i32_w]
        rfl
       refine take_ (i:=21) (N:=some 70) (v:=?_) (a':=?_) #[tt,tt,tt,tt,tt,tt,tt,tt,tt,tt,tt,tt,tt,tt,tt,tt,tt,tt,ff,tt,tt,tt,ff,ff,ff,tt,ff,ff,ff,ff] rfl rfl (take_ofW HT_.out HW_.out (by kernel_rfl)) (fun _ _ _ h => h) (Or.inl ⟨by rfl,?_⟩) hHeld ?_ ?_
       rotate_left
       ·rintro w' ⟨s0,s1,s2,s3,s4,s5,s6,s7,s8,s9,s10,s11,s12⟩
        go_simp
        with_reducible rfl
       rotate_left
       ·simp only [Act.put,sA,sZ,sS,i64_w,i32_w]
        rfl
       refine take_ (i:=23) (N:=some 72) (v:=?_) (a':=?_) #[tt,tt,tt,tt,tt,tt,tt,tt,tt,tt,tt,tt,tt,tt,tt,tt,tt,tt,ff,tt,tt,tt,ff,tt,ff,tt,ff,ff,ff,ff] rfl rfl (take_ofW HT_.out HW_.out (by kernel_rfl)) (fun _ _ _ h => h) (Or.inl ⟨by rfl,?_⟩) hHeld ?_ ?_
       rotate_left
       ·rintro w' ⟨s0,s1,s2,s3,s4,s5,s6,s7,s8,s9,s10,s11,s12⟩
        go_simp
        with_reducible rfl
       rotate_left
       ·simp only [Act.put,sA,sZ,sS,i64_w,i32_w]
        rfl
       refine take_ (i:=24) (N:=some 73) (v:=?_) (a':=?_) #[tt,tt,tt,tt,tt,tt,tt,tt,tt,tt,tt,tt,tt,tt,tt,tt,tt,tt,ff,tt,tt,tt,ff,tt,tt,tt,ff,ff,ff,ff] rfl rfl (take_ofW HT_.out HW_.out (by kernel_rfl)) (fun _ _ _ h => h) (Or.inl ⟨by rfl,?_⟩) hHeld ?_ ?_
       rotate_left
       ·rintro w' ⟨s0,s1,s2,s3,s4,s5,s6,s7,s8,s9,s10,s11,s12⟩
        go_simp
        with_reducible rfl
       rotate_left
       ·simp only [Act.put,sA,sZ,sS,i64_w,i32_w]
        rfl
       refine take_ (i:=26) (N:=some 75) (v:=?_) (a':=?_) #[tt,tt,tt,tt,tt,tt,tt,tt,tt,tt,tt,tt,tt,tt,tt,tt,tt,tt,ff,tt,tt,tt,ff,tt,tt,tt,tt,ff,ff,ff] rfl rfl (take_ofW HT_.out HW_.out (by kernel_rfl)) (fun _ _ _ h => h) (Or.inl ⟨by rfl,?_⟩) hHeld ?_ ?_
       rotate_left
       ·rintro w' ⟨s0,s1,s2,s3,s4,s5,s6,s7,s8,s9,s10,s11,s12⟩
        go_simp
        with_reducible rfl
       rotate_left
       ·simp only [Act.put,sA,sZ,sS,i64_w,i32_w]
        rfl
       refine one_ (i:=18) (N:=some 67) #[tt,tt,tt,tt,tt,tt,tt,tt,tt,tt,tt,tt,tt,tt,tt,tt,tt,tt,tt,tt,tt,tt,ff,tt,tt,tt,tt,ff,ff,ff] rfl rfl (one_of HT_.out (by kernel_rfl)) (by decide) (fun K hK => ?_)
       refine goes_ Try.func11 (by kernel_rfl) rfl #[.agg #[.int .u64 a0_0,.slice A0_1 l0_1.length c0_1]] (by rfl) rfl rfl (by (try simp only [List.map_toArray,List.map_cons,List.map_nil]);first|done|rfl|(simp only [List.length_drop,List.length_take];rfl)) ?_
       with_reducible refine (gazetteerlaw17_copied.calls a0_0 _ _ l0_1 t182 t183 _ ?side1 ?side2 A47.out).mono ?_
       (case side1 => repeat (first|exact (Kd.C_below HR0_1.out HB.out)|(with_reducible refine Kd.C_alloc ?_ _)|(with_reducible refine Kd.C_drewN ?_ _)|(with_reducible refine Kd.C_drew ?_)))
       (case side2 => exact HC0_1.out)
       rintro e w55 ⟨v184,rfl,ho0,hb⟩
       refine ⟨_,rfl,?_⟩
       have n0_:=Ak (Kd.R_elder' (by (with_reducible repeat (first|apply Kd.R_alloc|apply Kd.R_drewN|apply Kd.R_drew));exact HO162.out) (Kd.R_base ho0) hb)
       have n1_:=Ak (Kd.R_elder' (by (with_reducible repeat (first|apply Kd.R_alloc|apply Kd.R_drewN|apply Kd.R_drew));exact HO167.out) (Kd.R_base ho0) hb)
       have n2_:=Ak (Kd.R_elder' (by (with_reducible repeat (first|apply Kd.R_alloc|apply Kd.R_drewN|apply Kd.R_drew));exact HO179.out) (Kd.R_base ho0) hb)
       have n3_:=Ak (Kd.R_lower (Kd.R_new' (Kd.R_new' (Kd.R_new' ho0 (Kd.R_lt (by (with_reducible repeat (first|apply Kd.R_alloc|apply Kd.R_drewN|apply Kd.R_drew));exact HO162.out))) (Kd.R_lt (by (with_reducible repeat (first|apply Kd.R_alloc|apply Kd.R_drewN|apply Kd.R_drew));exact HO167.out))) (Kd.R_lt (by (with_reducible repeat (first|apply Kd.R_alloc|apply Kd.R_drewN|apply Kd.R_drew));exact HO179.out))) (below_size (by repeat (first|(with_reducible first|exact HB.out|apply bA|apply bN|apply bD|refine bS ?_ GE155.out|refine bS ?_ GE156.out|refine bS ?_ GE157.out)|exact HB.out))))
       have n4_:=Ak (kB (g:=gb155) (o:=.cells #[.int .u64 a0_0,.slice A0_1 l0_1.length c0_1] 25 (0,0)) (by (with_reducible repeat (first|refine kN ?_ _|refine kD ?_|refine kA ?_ _));exact BK155.out) hb)
       have n5_:=Ak (kB (g:=gb156) (o:=.cells #[.int .u64 a1_0,.bool a1_1,.int .u64 a1_2] 27 (0,0)) (by (with_reducible repeat (first|refine kN ?_ _|refine kD ?_|refine kA ?_ _));exact BK156.out) hb)
       have n6_:=Ak (kB (g:=gb157) (o:=.cells #[.int .u32 a2_0,.int .u64 a2_1,.int .u64 a2_2,.int .i64 a2_3,.int .i64 a2_4,.int .i64 a2_5,.int .i64 a2_6,.int .i64 a2_7] 32 (0,0)) (by (with_reducible repeat (first|refine kN ?_ _|refine kD ?_|refine kA ?_ _));exact BK157.out) hb)
       have n7_:=Ak (below_step (by repeat (first|(with_reducible first|exact HB.out|apply bA|apply bN|apply bD|refine bS ?_ GE155.out|refine bS ?_ GE156.out|refine bS ?_ GE157.out)|exact HB.out)) hb)
       clear HO162
       clear HO167
       clear HO179
       clear BK155
       clear BK156
       clear BK157
       clear HB
       have HO162:=n0_
       have HO167:=n1_
       have HO179:=n2_
       have HO185:=n3_
       have BK155:=n4_
       have BK156:=n5_
       have BK157:=n6_
       have HB:=n7_
       clear n0_ n1_ n2_ n3_ n4_ n5_ n6_ n7_
       (try clear hb)
       (try clear hb2)
       (try clear hk)
       (try clear hi)
       (try clear ho0)
       obtain ⟨Ao56,co56,eo56⟩:=Kd.R_slice HO185.out
       (first|subst eo56|(injection eo56 with f1_ f2_ f3_;have f4_:=f1_.symm;have f5_:=f3_.symm;clear f1_ f2_ f3_;subst f4_;subst f5_))
       refine hK.out _ _ ⟨(kC BK155.out 0).trans rfl,(kC BK155.out 1).trans rfl,(kC BK156.out 0).trans rfl,(kC BK156.out 1).trans rfl,(kC BK156.out 2).trans rfl,(kC BK157.out 0).trans rfl,(kC BK157.out 1).trans rfl,(kC BK157.out 2).trans rfl,(kC BK157.out 3).trans rfl,(kC BK157.out 4).trans rfl,(kC BK157.out 5).trans rfl,(kC BK157.out 6).trans rfl,(kC BK157.out 7).trans rfl⟩ (fun hHeld => ?_)
       clear hK K
       refine norm_ (a':=?_) ?_ ?_
       rotate_left
       ·show Act.put _ (some 67) _ = _
        simp only [Act.put,sA,sZ,sS,i64_w,i32_w]
        rfl
       refine one_ (i:=22) (N:=some 71) #[tt,tt,tt,tt,tt,tt,tt,tt,tt,tt,tt,tt,tt,tt,tt,tt,tt,tt,tt,tt,tt,tt,tt,tt,tt,tt,tt,ff,ff,ff] rfl rfl (one_of HT_.out (by kernel_rfl)) (by decide) (fun K hK => ?_)
       refine goes_ Try.func14 (by kernel_rfl) rfl #[.agg #[.int .u64 t182,.slice Ao56 t183.length co56],.agg #[.int .u64 a1_0,.bool a1_1,.int .u64 a1_2],.int .u64 a2_2] (by rfl) rfl rfl (by (try simp only [List.map_toArray,List.map_cons,List.map_nil]);first|done|rfl|(simp only [List.length_drop,List.length_take];rfl)) ?_
       with_reducible refine (vision_Counts.calls t182 _ _ t183 a1_0 a1_1 a1_2 a2_2 t186 _ ?side1 ?side2 A48.out).mono ?_
       (case side1 => repeat (first|exact (Kd.R_reads' HO185.out).2.2|(with_reducible refine Kd.C_alloc ?_ _)|(with_reducible refine Kd.C_drewN ?_ _)|(with_reducible refine Kd.C_drew ?_)))
       (case side2 => exact (Kd.R_reads' HO185.out).2.1)
       rintro e w57 ⟨rfl,hb⟩
       refine ⟨_,rfl,?_⟩
       have n0_:=Ak (Kd.R_below (by (with_reducible repeat (first|apply Kd.R_alloc|apply Kd.R_drewN|apply Kd.R_drew));exact HO162.out) hb)
       have n1_:=Ak (Kd.R_below (by (with_reducible repeat (first|apply Kd.R_alloc|apply Kd.R_drewN|apply Kd.R_drew));exact HO167.out) hb)
       have n2_:=Ak (Kd.R_below (by (with_reducible repeat (first|apply Kd.R_alloc|apply Kd.R_drewN|apply Kd.R_drew));exact HO179.out) hb)
       have n3_:=Ak (Kd.R_below (by (with_reducible repeat (first|apply Kd.R_alloc|apply Kd.R_drewN|apply Kd.R_drew));exact HO185.out) hb)
       have n4_:=Ak (kB (g:=gb155) (o:=.cells #[.int .u64 a0_0,.slice A0_1 l0_1.length c0_1] 25 (0,0)) (by (with_reducible repeat (first|refine kN ?_ _|refine kD ?_|refine kA ?_ _));exact BK155.out) hb)
       have n5_:=Ak (kB (g:=gb156) (o:=.cells #[.int .u64 a1_0,.bool a1_1,.int .u64 a1_2] 27 (0,0)) (by (with_reducible repeat (first|refine kN ?_ _|refine kD ?_|refine kA ?_ _));exact BK156.out) hb)
       have n6_:=Ak (kB (g:=gb157) (o:=.cells #[.int .u32 a2_0,.int .u64 a2_1,.int .u64 a2_2,.int .i64 a2_3,.int .i64 a2_4,.int .i64 a2_5,.int .i64 a2_6,.int .i64 a2_7] 32 (0,0)) (by (with_reducible repeat (first|refine kN ?_ _|refine kD ?_|refine kA ?_ _));exact BK157.out) hb)
       have n7_:=Ak (below_step (by repeat (first|(with_reducible first|exact HB.out|apply bA|apply bN|apply bD|refine bS ?_ GE155.out|refine bS ?_ GE156.out|refine bS ?_ GE157.out)|exact HB.out)) hb)
       clear HO162
       clear HO167
       clear HO179
       clear HO185
       clear BK155
       clear BK156
       clear BK157
       clear HB
       have HO162:=n0_
       have HO167:=n1_
       have HO179:=n2_
       have HO185:=n3_
       have BK155:=n4_
       have BK156:=n5_
       have BK157:=n6_
       have HB:=n7_
       clear n0_ n1_ n2_ n3_ n4_ n5_ n6_ n7_
       (try clear hb)
       (try clear hb2)
       (try clear hk)
       (try clear hi)
       refine hK.out _ _ ⟨(kC BK155.out 0).trans rfl,(kC BK155.out 1).trans rfl,(kC BK156.out 0).trans rfl,(kC BK156.out 1).trans rfl,(kC BK156.out 2).trans rfl,(kC BK157.out 0).trans rfl,(kC BK157.out 1).trans rfl,(kC BK157.out 2).trans rfl,(kC BK157.out 3).trans rfl,(kC BK157.out 4).trans rfl,(kC BK157.out 5).trans rfl,(kC BK157.out 6).trans rfl,(kC BK157.out 7).trans rfl⟩ (fun hHeld => ?_)
       clear hK K
       refine norm_ (a':=?_) ?_ ?_
       rotate_left
       ·show Act.put _ (some 71) _ = _
        simp only [Act.put,sA,sZ,sS,i64_w,i32_w]
        rfl
       refine one_ (i:=27) (N:=some 76) #[tt,tt,tt,tt,tt,tt,tt,tt,tt,tt,tt,tt,tt,tt,tt,tt,tt,tt,tt,tt,tt,tt,tt,tt,tt,tt,tt,tt,ff,ff] rfl rfl (one_of HT_.out (by kernel_rfl)) (by decide) (fun K hK => ?_)
       refine goes_ Try.func15 (by kernel_rfl) rfl #[.agg #[.int .u64 a0_0,.slice A0_1 l0_1.length c0_1],.agg #[.int .u64 a1_0,.bool a1_1,.int .u64 a1_2],.int .u64 a2_2] (by rfl) rfl rfl (by (try simp only [List.map_toArray,List.map_cons,List.map_nil]);first|done|rfl|(simp only [List.length_drop,List.length_take];rfl)) ?_
       with_reducible refine (gazetteerref17_Counts.calls k a0_0 _ _ l0_1 a1_0 a1_1 a1_2 a2_2 t187 _ ?side1 ?side2 A49.out).mono ?_
       (case side1 => repeat (first|exact (Kd.C_below HR0_1.out HB.out)|(with_reducible refine Kd.C_alloc ?_ _)|(with_reducible refine Kd.C_drewN ?_ _)|(with_reducible refine Kd.C_drew ?_)))
       (case side2 => exact HC0_1.out)
       rintro e w58 ⟨rfl,hb⟩
       refine ⟨_,rfl,?_⟩
       have n0_:=Ak (Kd.R_below (by (with_reducible repeat (first|apply Kd.R_alloc|apply Kd.R_drewN|apply Kd.R_drew));exact HO162.out) hb)
       have n1_:=Ak (Kd.R_below (by (with_reducible repeat (first|apply Kd.R_alloc|apply Kd.R_drewN|apply Kd.R_drew));exact HO167.out) hb)
       have n2_:=Ak (Kd.R_below (by (with_reducible repeat (first|apply Kd.R_alloc|apply Kd.R_drewN|apply Kd.R_drew));exact HO179.out) hb)
       have n3_:=Ak (Kd.R_below (by (with_reducible repeat (first|apply Kd.R_alloc|apply Kd.R_drewN|apply Kd.R_drew));exact HO185.out) hb)
       have n4_:=Ak (kB (g:=gb155) (o:=.cells #[.int .u64 a0_0,.slice A0_1 l0_1.length c0_1] 25 (0,0)) (by (with_reducible repeat (first|refine kN ?_ _|refine kD ?_|refine kA ?_ _));exact BK155.out) hb)
       have n5_:=Ak (kB (g:=gb156) (o:=.cells #[.int .u64 a1_0,.bool a1_1,.int .u64 a1_2] 27 (0,0)) (by (with_reducible repeat (first|refine kN ?_ _|refine kD ?_|refine kA ?_ _));exact BK156.out) hb)
       have n6_:=Ak (kB (g:=gb157) (o:=.cells #[.int .u32 a2_0,.int .u64 a2_1,.int .u64 a2_2,.int .i64 a2_3,.int .i64 a2_4,.int .i64 a2_5,.int .i64 a2_6,.int .i64 a2_7] 32 (0,0)) (by (with_reducible repeat (first|refine kN ?_ _|refine kD ?_|refine kA ?_ _));exact BK157.out) hb)
       have n7_:=Ak (below_step (by repeat (first|(with_reducible first|exact HB.out|apply bA|apply bN|apply bD|refine bS ?_ GE155.out|refine bS ?_ GE156.out|refine bS ?_ GE157.out)|exact HB.out)) hb)
       clear HO162
       clear HO167
       clear HO179
       clear HO185
       clear BK155
       clear BK156
       clear BK157
       clear HB
       have HO162:=n0_
       have HO167:=n1_
       have HO179:=n2_
       have HO185:=n3_
       have BK155:=n4_
       have BK156:=n5_
       have BK157:=n6_
       have HB:=n7_
       clear n0_ n1_ n2_ n3_ n4_ n5_ n6_ n7_
       (try clear hb)
       (try clear hb2)
       (try clear hk)
       (try clear hi)
       refine hK.out _ _ ⟨(kC BK155.out 0).trans rfl,(kC BK155.out 1).trans rfl,(kC BK156.out 0).trans rfl,(kC BK156.out 1).trans rfl,(kC BK156.out 2).trans rfl,(kC BK157.out 0).trans rfl,(kC BK157.out 1).trans rfl,(kC BK157.out 2).trans rfl,(kC BK157.out 3).trans rfl,(kC BK157.out 4).trans rfl,(kC BK157.out 5).trans rfl,(kC BK157.out 6).trans rfl,(kC BK157.out 7).trans rfl⟩ (fun hHeld => ?_)
       clear hK K
       refine norm_ (a':=?_) ?_ ?_
       rotate_left
       ·show Act.put _ (some 76) _ = _
        simp only [Act.put,sA,sZ,sS,i64_w,i32_w]
        rfl
       refine pure_ (i:=28) (N:=some 77) (v:=?_) (a':=?_) #[tt,tt,tt,tt,tt,tt,tt,tt,tt,tt,tt,tt,tt,tt,tt,tt,tt,tt,tt,tt,tt,tt,tt,tt,tt,tt,tt,tt,tt,ff] rfl rfl (any_of HT_.out (by kernel_rfl)) (fun _ _ _ h => h) (Or.inl ⟨by rfl,?_⟩) ?_ ?_
       rotate_left
       ·intro w'
        go_simp
        with_reducible rfl
       rotate_left
       ·simp only [Act.put,sA,sZ,sS,i64_w,i32_w]
        rfl
       refine pure_ (i:=29) (N:=some 78) (v:=?_) (a':=?_) #[tt,tt,tt,tt,tt,tt,tt,tt,tt,tt,tt,tt,tt,tt,tt,tt,tt,tt,tt,tt,tt,tt,tt,tt,tt,tt,tt,tt,tt,tt] rfl rfl (any_of HT_.out (by kernel_rfl)) (fun _ _ _ h => h) (Or.inl ⟨by rfl,?_⟩) ?_ ?_
       rotate_left
       ·intro w'
        go_simp
        with_reducible rfl
       rotate_left
       ·simp only [Act.put,sA,sZ,sS,i64_w,i32_w]
        rfl
       refine done_ (done_of HT_.out (by kernel_rfl)) ?_
       try go_wp2
       go_meet
       case rel => exact ⟨_,((t186 != t187)),(by first|rfl|(simp;done)|(simp [*];done)),H',⟨by first|omega|exact Nat.le_refl _⟩,⟨by (with_reducible repeat (first|refine kN ?_ _|refine kD ?_|refine kA ?_ _));exact BK155.out⟩,⟨by (with_reducible repeat (first|refine kN ?_ _|refine kD ?_|refine kA ?_ _));exact BK156.out⟩,⟨by (with_reducible repeat (first|refine kN ?_ _|refine kD ?_|refine kA ?_ _));exact BK157.out⟩,⟨by repeat (first|(with_reducible first|exact HB.out|apply bA|apply bN|apply bD|refine bS ?_ GE155.out|refine bS ?_ GE156.out|refine bS ?_ GE157.out)|exact HB.out)⟩⟩
     ·rw [if_neg c37] at H
      have c37b0 : (t163 == 0) = false:=beq_eq_false_iff_ne.mpr c37
      have c37b1 : (t163 != 0) = true:=bne_iff_ne.mpr c37
      (first|rw [c37b0]|(simp only [i64_w,i32_w];rw [c37b0])|skip)
      have H':=Ak H
      clear H
      try go_wp2
      have n0_:=Ak (Kd.R_drew HO162.out)
      have n1_:=Ak (Kd.R_drew HO167.out)
      have n2_:=Ak (kD BK155.out)
      have n3_:=Ak (kD BK156.out)
      have n4_:=Ak (kD BK157.out)
      have n5_:=Ak (bD HB.out)
      clear HO162
      clear HO167
      clear BK155
      clear BK156
      clear BK157
      clear HB
      have HO162:=n0_
      have HO167:=n1_
      have BK155:=n2_
      have BK156:=n3_
      have BK157:=n4_
      have HB:=n5_
      clear n0_ n1_ n2_ n3_ n4_ n5_
      refine start_ (n:=30) (S:=fun w' => True) (ds:=[]) #[ff,ff,ff,ff,ff,ff,ff,ff,ff,ff,ff,ff,ff,ff,ff,ff,ff,ff,ff,ff,ff,ff,ff,ff,ff,ff,ff,ff,ff,ff] (by kernel_rfl) rfl rfl trivial (fun hHeld => ?_);refine with_tabW gazetteerlaw17_VisionCounts.tab9 gazetteerlaw17_VisionCounts.bits9 (fun HT_ HW_ => ?_)
      generalize w36.drew = w59 at HO162 HO167 BK155 BK156 BK157 HB hHeld ⊢
      refine pure_ (i:=0) (N:=some 49) (v:=?_) (a':=?_) #[tt,ff,ff,ff,ff,ff,ff,ff,ff,ff,ff,ff,ff,ff,ff,ff,ff,ff,ff,ff,ff,ff,ff,ff,ff,ff,ff,ff,ff,ff] rfl rfl (any_of HT_.out (by kernel_rfl)) (fun _ _ _ h => h) (Or.inl ⟨by rfl,?_⟩) ?_ ?_
      rotate_left
      ·intro w'
       go_simp
       with_reducible rfl
      rotate_left
      ·simp only [Act.put,sA,sZ,sS,i64_w,i32_w]
       rfl
      refine pure_ (i:=1) (N:=some 50) (v:=?_) (a':=?_) #[tt,tt,ff,ff,ff,ff,ff,ff,ff,ff,ff,ff,ff,ff,ff,ff,ff,ff,ff,ff,ff,ff,ff,ff,ff,ff,ff,ff,ff,ff] rfl rfl (any_of HT_.out (by kernel_rfl)) (fun _ _ _ h => h) (Or.inl ⟨by rfl,?_⟩) ?_ ?_
      rotate_left
      ·intro w'
       go_simp
       with_reducible rfl
      rotate_left
      ·simp only [Act.put,sA,sZ,sS,i64_w,i32_w]
       rfl
      refine pure_ (i:=2) (N:=some 51) (v:=?_) (a':=?_) #[tt,tt,tt,ff,ff,ff,ff,ff,ff,ff,ff,ff,ff,ff,ff,ff,ff,ff,ff,ff,ff,ff,ff,ff,ff,ff,ff,ff,ff,ff] rfl rfl (any_of HT_.out (by kernel_rfl)) (fun _ _ _ h => h) (Or.inl ⟨by rfl,?_⟩) ?_ ?_
      rotate_left
      ·intro w'
       go_simp
       with_reducible rfl
      rotate_left
      ·simp only [Act.put,sA,sZ,sS,i64_w,i32_w]
       rfl
      refine pure_ (i:=3) (N:=some 52) (v:=undef) (a':=?_) #[tt,tt,tt,tt,ff,ff,ff,ff,ff,ff,ff,ff,ff,ff,ff,ff,ff,ff,ff,ff,ff,ff,ff,ff,ff,ff,ff,ff,ff,ff] rfl rfl (any_of HT_.out (by kernel_rfl)) (fun _ _ _ h => h) (Or.inr ⟨by rfl,rfl⟩) ?_ ?_
      rotate_left
      ·simp only [Act.put,sA,sZ,sS,i64_w,i32_w]
       rfl
      refine pure_ (i:=4) (N:=some 53) (v:=undef) (a':=?_) #[tt,tt,tt,tt,tt,ff,ff,ff,ff,ff,ff,ff,ff,ff,ff,ff,ff,ff,ff,ff,ff,ff,ff,ff,ff,ff,ff,ff,ff,ff] rfl rfl (any_of HT_.out (by kernel_rfl)) (fun _ _ _ h => h) (Or.inr ⟨by rfl,rfl⟩) ?_ ?_
      rotate_left
      ·simp only [Act.put,sA,sZ,sS,i64_w,i32_w]
       rfl
      refine pure_ (i:=5) (N:=some 54) (v:=undef) (a':=?_) #[tt,tt,tt,tt,tt,tt,ff,ff,ff,ff,ff,ff,ff,ff,ff,ff,ff,ff,ff,ff,ff,ff,ff,ff,ff,ff,ff,ff,ff,ff] rfl rfl (any_of HT_.out (by kernel_rfl)) (fun _ _ _ h => h) (Or.inr ⟨by rfl,rfl⟩) ?_ ?_
      rotate_left
      ·simp only [Act.put,sA,sZ,sS,i64_w,i32_w]
       rfl
      refine pure_ (i:=6) (N:=some 55) (v:=undef) (a':=?_) #[tt,tt,tt,tt,tt,tt,tt,ff,ff,ff,ff,ff,ff,ff,ff,ff,ff,ff,ff,ff,ff,ff,ff,ff,ff,ff,ff,ff,ff,ff] rfl rfl (any_of HT_.out (by kernel_rfl)) (fun _ _ _ h => h) (Or.inr ⟨by rfl,rfl⟩) ?_ ?_
      rotate_left
      ·simp only [Act.put,sA,sZ,sS,i64_w,i32_w]
       rfl
      refine pure_ (i:=7) (N:=some 56) (v:=undef) (a':=?_) #[tt,tt,tt,tt,tt,tt,tt,tt,ff,ff,ff,ff,ff,ff,ff,ff,ff,ff,ff,ff,ff,ff,ff,ff,ff,ff,ff,ff,ff,ff] rfl rfl (any_of HT_.out (by kernel_rfl)) (fun _ _ _ h => h) (Or.inr ⟨by rfl,rfl⟩) ?_ ?_
      rotate_left
      ·simp only [Act.put,sA,sZ,sS,i64_w,i32_w]
       rfl
      refine pure_ (i:=8) (N:=some 57) (v:=undef) (a':=?_) #[tt,tt,tt,tt,tt,tt,tt,tt,tt,ff,ff,ff,ff,ff,ff,ff,ff,ff,ff,ff,ff,ff,ff,ff,ff,ff,ff,ff,ff,ff] rfl rfl (any_of HT_.out (by kernel_rfl)) (fun _ _ _ h => h) (Or.inr ⟨by rfl,rfl⟩) ?_ ?_
      rotate_left
      ·simp only [Act.put,sA,sZ,sS,i64_w,i32_w]
       rfl
      refine pure_ (i:=9) (N:=some 58) (v:=undef) (a':=?_) #[tt,tt,tt,tt,tt,tt,tt,tt,tt,tt,ff,ff,ff,ff,ff,ff,ff,ff,ff,ff,ff,ff,ff,ff,ff,ff,ff,ff,ff,ff] rfl rfl (any_of HT_.out (by kernel_rfl)) (fun _ _ _ h => h) (Or.inr ⟨by rfl,rfl⟩) ?_ ?_
      rotate_left
      ·simp only [Act.put,sA,sZ,sS,i64_w,i32_w]
       rfl
      refine pure_ (i:=10) (N:=some 59) (v:=undef) (a':=?_) #[tt,tt,tt,tt,tt,tt,tt,tt,tt,tt,tt,ff,ff,ff,ff,ff,ff,ff,ff,ff,ff,ff,ff,ff,ff,ff,ff,ff,ff,ff] rfl rfl (any_of HT_.out (by kernel_rfl)) (fun _ _ _ h => h) (Or.inr ⟨by rfl,rfl⟩) ?_ ?_
      rotate_left
      ·simp only [Act.put,sA,sZ,sS,i64_w,i32_w]
       rfl
      refine pure_ (i:=11) (N:=some 60) (v:=undef) (a':=?_) #[tt,tt,tt,tt,tt,tt,tt,tt,tt,tt,tt,tt,ff,ff,ff,ff,ff,ff,ff,ff,ff,ff,ff,ff,ff,ff,ff,ff,ff,ff] rfl rfl (any_of HT_.out (by kernel_rfl)) (fun _ _ _ h => h) (Or.inr ⟨by rfl,rfl⟩) ?_ ?_
      rotate_left
      ·simp only [Act.put,sA,sZ,sS,i64_w,i32_w]
       rfl
      refine pure_ (i:=12) (N:=some 61) (v:=undef) (a':=?_) #[tt,tt,tt,tt,tt,tt,tt,tt,tt,tt,tt,tt,tt,ff,ff,ff,ff,ff,ff,ff,ff,ff,ff,ff,ff,ff,ff,ff,ff,ff] rfl rfl (any_of HT_.out (by kernel_rfl)) (fun _ _ _ h => h) (Or.inr ⟨by rfl,rfl⟩) ?_ ?_
      rotate_left
      ·simp only [Act.put,sA,sZ,sS,i64_w,i32_w]
       rfl
      refine pure_ (i:=13) (N:=some 62) (v:=undef) (a':=?_) #[tt,tt,tt,tt,tt,tt,tt,tt,tt,tt,tt,tt,tt,tt,ff,ff,ff,ff,ff,ff,ff,ff,ff,ff,ff,ff,ff,ff,ff,ff] rfl rfl (any_of HT_.out (by kernel_rfl)) (fun _ _ _ h => h) (Or.inr ⟨by rfl,rfl⟩) ?_ ?_
      rotate_left
      ·simp only [Act.put,sA,sZ,sS,i64_w,i32_w]
       rfl
      refine pure_ (i:=14) (N:=some 63) (v:=undef) (a':=?_) #[tt,tt,tt,tt,tt,tt,tt,tt,tt,tt,tt,tt,tt,tt,tt,ff,ff,ff,ff,ff,ff,ff,ff,ff,ff,ff,ff,ff,ff,ff] rfl rfl (any_of HT_.out (by kernel_rfl)) (fun _ _ _ h => h) (Or.inr ⟨by rfl,rfl⟩) ?_ ?_
      rotate_left
      ·simp only [Act.put,sA,sZ,sS,i64_w,i32_w]
       rfl
      refine pure_ (i:=15) (N:=some 64) (v:=?_) (a':=?_) #[tt,tt,tt,tt,tt,tt,tt,tt,tt,tt,tt,tt,tt,tt,tt,tt,ff,ff,ff,ff,ff,ff,ff,ff,ff,ff,ff,ff,ff,ff] rfl rfl (any_of HT_.out (by kernel_rfl)) (fun _ _ _ h => h) (Or.inl ⟨by rfl,?_⟩) ?_ ?_
      rotate_left
      ·intro w'
       go_simp
       with_reducible rfl
      rotate_left
      ·simp only [Act.put,sA,sZ,sS,i64_w,i32_w]
       rfl
      refine pure_ (i:=16) (N:=some 65) (v:=?_) (a':=?_) #[tt,tt,tt,tt,tt,tt,tt,tt,tt,tt,tt,tt,tt,tt,tt,tt,tt,ff,ff,ff,ff,ff,ff,ff,ff,ff,ff,ff,ff,ff] rfl rfl (any_of HT_.out (by kernel_rfl)) (fun _ _ _ h => h) (Or.inl ⟨by rfl,?_⟩) ?_ ?_
      rotate_left
      ·intro w'
       go_simp
       with_reducible rfl
      rotate_left
      ·simp only [Act.put,sA,sZ,sS,i64_w,i32_w]
       rfl
      refine pure_ (i:=17) (N:=some 66) (v:=undef) (a':=?_) #[tt,tt,tt,tt,tt,tt,tt,tt,tt,tt,tt,tt,tt,tt,tt,tt,tt,tt,ff,ff,ff,ff,ff,ff,ff,ff,ff,ff,ff,ff] rfl rfl (any_of HT_.out (by kernel_rfl)) (fun _ _ _ h => h) (Or.inr ⟨by rfl,rfl⟩) ?_ ?_
      rotate_left
      ·simp only [Act.put,sA,sZ,sS,i64_w,i32_w]
       rfl
      refine pure_ (i:=18) (N:=some 67) (v:=undef) (a':=?_) #[tt,tt,tt,tt,tt,tt,tt,tt,tt,tt,tt,tt,tt,tt,tt,tt,tt,tt,tt,ff,ff,ff,ff,ff,ff,ff,ff,ff,ff,ff] rfl rfl (any_of HT_.out (by kernel_rfl)) (fun _ _ _ h => h) (Or.inr ⟨by rfl,rfl⟩) ?_ ?_
      rotate_left
      ·simp only [Act.put,sA,sZ,sS,i64_w,i32_w]
       rfl
      refine pure_ (i:=19) (N:=some 68) (v:=undef) (a':=?_) #[tt,tt,tt,tt,tt,tt,tt,tt,tt,tt,tt,tt,tt,tt,tt,tt,tt,tt,tt,tt,ff,ff,ff,ff,ff,ff,ff,ff,ff,ff] rfl rfl (any_of HT_.out (by kernel_rfl)) (fun _ _ _ h => h) (Or.inr ⟨by rfl,rfl⟩) ?_ ?_
      rotate_left
      ·simp only [Act.put,sA,sZ,sS,i64_w,i32_w]
       rfl
      refine pure_ (i:=20) (N:=some 69) (v:=undef) (a':=?_) #[tt,tt,tt,tt,tt,tt,tt,tt,tt,tt,tt,tt,tt,tt,tt,tt,tt,tt,tt,tt,tt,ff,ff,ff,ff,ff,ff,ff,ff,ff] rfl rfl (any_of HT_.out (by kernel_rfl)) (fun _ _ _ h => h) (Or.inr ⟨by rfl,rfl⟩) ?_ ?_
      rotate_left
      ·simp only [Act.put,sA,sZ,sS,i64_w,i32_w]
       rfl
      refine pure_ (i:=21) (N:=some 70) (v:=undef) (a':=?_) #[tt,tt,tt,tt,tt,tt,tt,tt,tt,tt,tt,tt,tt,tt,tt,tt,tt,tt,tt,tt,tt,tt,ff,ff,ff,ff,ff,ff,ff,ff] rfl rfl (any_of HT_.out (by kernel_rfl)) (fun _ _ _ h => h) (Or.inr ⟨by rfl,rfl⟩) ?_ ?_
      rotate_left
      ·simp only [Act.put,sA,sZ,sS,i64_w,i32_w]
       rfl
      refine pure_ (i:=22) (N:=some 71) (v:=undef) (a':=?_) #[tt,tt,tt,tt,tt,tt,tt,tt,tt,tt,tt,tt,tt,tt,tt,tt,tt,tt,tt,tt,tt,tt,tt,ff,ff,ff,ff,ff,ff,ff] rfl rfl (any_of HT_.out (by kernel_rfl)) (fun _ _ _ h => h) (Or.inr ⟨by rfl,rfl⟩) ?_ ?_
      rotate_left
      ·simp only [Act.put,sA,sZ,sS,i64_w,i32_w]
       rfl
      refine pure_ (i:=23) (N:=some 72) (v:=undef) (a':=?_) #[tt,tt,tt,tt,tt,tt,tt,tt,tt,tt,tt,tt,tt,tt,tt,tt,tt,tt,tt,tt,tt,tt,tt,tt,ff,ff,ff,ff,ff,ff] rfl rfl (any_of HT_.out (by kernel_rfl)) (fun _ _ _ h => h) (Or.inr ⟨by rfl,rfl⟩) ?_ ?_
      rotate_left
      ·simp only [Act.put,sA,sZ,sS,i64_w,i32_w]
       rfl
      refine pure_ (i:=24) (N:=some 73) (v:=undef) (a':=?_) #[tt,tt,tt,tt,tt,tt,tt,tt,tt,tt,tt,tt,tt,tt,tt,tt,tt,tt,tt,tt,tt,tt,tt,tt,tt,ff,ff,ff,ff,ff] rfl rfl (any_of HT_.out (by kernel_rfl)) (fun _ _ _ h => h) (Or.inr ⟨by rfl,rfl⟩) ?_ ?_
      rotate_left
      ·simp only [Act.put,sA,sZ,sS,i64_w,i32_w]
       rfl
      refine pure_ (i:=25) (N:=some 74) (v:=undef) (a':=?_) #[tt,tt,tt,tt,tt,tt,tt,tt,tt,tt,tt,tt,tt,tt,tt,tt,tt,tt,tt,tt,tt,tt,tt,tt,tt,tt,ff,ff,ff,ff] rfl rfl (any_of HT_.out (by kernel_rfl)) (fun _ _ _ h => h) (Or.inr ⟨by rfl,rfl⟩) ?_ ?_
      rotate_left
      ·simp only [Act.put,sA,sZ,sS,i64_w,i32_w]
       rfl
      refine pure_ (i:=26) (N:=some 75) (v:=undef) (a':=?_) #[tt,tt,tt,tt,tt,tt,tt,tt,tt,tt,tt,tt,tt,tt,tt,tt,tt,tt,tt,tt,tt,tt,tt,tt,tt,tt,tt,ff,ff,ff] rfl rfl (any_of HT_.out (by kernel_rfl)) (fun _ _ _ h => h) (Or.inr ⟨by rfl,rfl⟩) ?_ ?_
      rotate_left
      ·simp only [Act.put,sA,sZ,sS,i64_w,i32_w]
       rfl
      refine pure_ (i:=27) (N:=some 76) (v:=undef) (a':=?_) #[tt,tt,tt,tt,tt,tt,tt,tt,tt,tt,tt,tt,tt,tt,tt,tt,tt,tt,tt,tt,tt,tt,tt,tt,tt,tt,tt,tt,ff,ff] rfl rfl (any_of HT_.out (by kernel_rfl)) (fun _ _ _ h => h) (Or.inr ⟨by rfl,rfl⟩) ?_ ?_
      rotate_left
      ·simp only [Act.put,sA,sZ,sS,i64_w,i32_w]
       rfl
      refine pure_ (i:=28) (N:=some 77) (v:=undef) (a':=?_) #[tt,tt,tt,tt,tt,tt,tt,tt,tt,tt,tt,tt,tt,tt,tt,tt,tt,tt,tt,tt,tt,tt,tt,tt,tt,tt,tt,tt,tt,ff] rfl rfl (any_of HT_.out (by kernel_rfl)) (fun _ _ _ h => h) (Or.inr ⟨by rfl,rfl⟩) ?_ ?_
      rotate_left
      ·simp only [Act.put,sA,sZ,sS,i64_w,i32_w]
       rfl
      refine pure_ (i:=29) (N:=some 78) (v:=?_) (a':=?_) #[tt,tt,tt,tt,tt,tt,tt,tt,tt,tt,tt,tt,tt,tt,tt,tt,tt,tt,tt,tt,tt,tt,tt,tt,tt,tt,tt,tt,tt,tt] rfl rfl (any_of HT_.out (by kernel_rfl)) (fun _ _ _ h => h) (Or.inl ⟨by rfl,?_⟩) ?_ ?_
      rotate_left
      ·intro w'
       go_simp
       with_reducible rfl
      rotate_left
      ·simp only [Act.put,sA,sZ,sS,i64_w,i32_w]
       rfl
      refine done_ (done_of HT_.out (by kernel_rfl)) ?_
      try go_wp2
      go_meet
      case rel => exact ⟨_,(true),(by first|rfl|(simp;done)|(simp [*];done)),H',⟨by first|omega|exact Nat.le_refl _⟩,⟨by (with_reducible repeat (first|refine kN ?_ _|refine kD ?_|refine kA ?_ _));exact BK155.out⟩,⟨by (with_reducible repeat (first|refine kN ?_ _|refine kD ?_|refine kA ?_ _));exact BK156.out⟩,⟨by (with_reducible repeat (first|refine kN ?_ _|refine kD ?_|refine kA ?_ _));exact BK157.out⟩,⟨by repeat (first|(with_reducible first|exact HB.out|apply bA|apply bN|apply bD|refine bS ?_ GE155.out|refine bS ?_ GE156.out|refine bS ?_ GE157.out)|exact HB.out)⟩⟩
    case rest =>
     clear HC20
     try clear c1
     try clear p2
     try clear c3
     try clear c11
     try clear c14
     try clear c15
     try clear c37
     try clear c37b0
     try clear c37b1
     obtain ⟨kq,x78_19,rfl,HA,HJ19,BK155,BK156,BK157,HB⟩:=hcut
     cases kq with
     | zero => exact absurd HA.out (by simp [gazetteerlaw17_VisionCounts.j0])
     | succ kj19 =>
      have H:=HA.out
      clear HA
      simp only [gazetteerlaw17_VisionCounts.j0] at H
      by_cases c60 : x78_19 = true
      ·subst c60
       have H1 : (some false) = some r:=by rw [if_pos rfl] at H;exact H
       clear H
       have H:=H1
       clear H1
       obtain rfl:=Option.some.inj H
       go_wp2
       go_ret
       exact ⟨by first|rfl|(simp [errW_none,errW_some] <;> rfl)|(simp [*,errW_none,errW_some] <;> rfl),by repeat (first|(with_reducible first|exact HB.out|apply bA|apply bN|apply bD|refine bS ?_ GE155.out|refine bS ?_ GE156.out|refine bS ?_ GE157.out)|exact HB.out)⟩
      ·replace c60:=Bool.eq_false_iff.mpr c60
       subst c60
       have H1 : ((gazetteerref10_Right.f a2_0 a2_1 a2_2 a2_3 a2_4 a2_5 a2_6 a2_7).bind fun t188 => (if t188 = true then (if t169 = 0 then ((gazetteerref17_Sees.f kj19 a0_0 l0_1 a1_0 a1_1 a1_2 a2_0 a2_1 a2_2 a2_3 a2_4 a2_5 a2_6 a2_7).bind fun t189 => (some (t168 == t189))) else (some false)) else (if t168 = true then (some false) else (some (t169 == 200))))) = some r:=by rw [if_neg (show ¬ (false = true) by decide)] at H;exact H
       clear H
       have H:=H1
       clear H1
       replace H:=Option.bind_eq_some_iff.mp H
       obtain ⟨t188,A610,H⟩:=H
       replace H : (if t188 = true then (if t169 = 0 then ((gazetteerref17_Sees.f kj19 a0_0 l0_1 a1_0 a1_1 a1_2 a2_0 a2_1 a2_2 a2_3 a2_4 a2_5 a2_6 a2_7).bind fun t189 => (some (t168 == t189))) else (some false)) else (if t168 = true then (some false) else (some (t169 == 200)))) = some r:=H
       have A61:=Ak A610
       clear A610
       by_cases c62 : t188 = true
       ·subst c62
        have H1 : (if t169 = 0 then ((gazetteerref17_Sees.f kj19 a0_0 l0_1 a1_0 a1_1 a1_2 a2_0 a2_1 a2_2 a2_3 a2_4 a2_5 a2_6 a2_7).bind fun t189 => (some (t168 == t189))) else (some false)) = some r:=by rw [if_pos rfl] at H;exact H
        clear H
        have H:=H1
        clear H1
        by_cases c63 : t169 = 0
        ·rw [if_pos c63] at H
         have c63b0 : (t169 == 0) = true:=beq_iff_eq.mpr c63
         have c63b1 : (t169 != 0) = false:=bne_eq_false_iff_eq.mpr c63
         clear c63
         replace H:=Option.bind_eq_some_iff.mp H
         obtain ⟨t189,A640,H⟩:=H
         replace H : (some (t168 == t189)) = some r:=H
         have A64:=Ak A640
         clear A640
         obtain rfl:=Option.some.inj H
         have hnb65:=NB157_155.out
         have hnc65:=NB155_157.out
         have hnb66:=NB157_156.out
         have hnc66:=NB156_157.out
         have hcz67_0 : wc.cell? ⟨gb157,0,none⟩ = some (.int .u32 a2_0):=(kC BK157.out 0).trans rfl
         have hcz67_1 : wc.cell? ⟨gb157,1,none⟩ = some (.int .u64 a2_1):=(kC BK157.out 1).trans rfl
         have hcz67_2 : wc.cell? ⟨gb157,2,none⟩ = some (.int .u64 a2_2):=(kC BK157.out 2).trans rfl
         have hcz67_3 : wc.cell? ⟨gb157,3,none⟩ = some (.int .i64 a2_3):=(kC BK157.out 3).trans rfl
         have hcz67_4 : wc.cell? ⟨gb157,4,none⟩ = some (.int .i64 a2_4):=(kC BK157.out 4).trans rfl
         have hcz67_5 : wc.cell? ⟨gb157,5,none⟩ = some (.int .i64 a2_5):=(kC BK157.out 5).trans rfl
         have hcz67_6 : wc.cell? ⟨gb157,6,none⟩ = some (.int .i64 a2_6):=(kC BK157.out 6).trans rfl
         have hcz67_7 : wc.cell? ⟨gb157,7,none⟩ = some (.int .i64 a2_7):=(kC BK157.out 7).trans rfl
         have hfz67_0:=blk_frozen BK157.out 0
         have hfz67_1:=blk_frozen BK157.out 1
         have hfz67_2:=blk_frozen BK157.out 2
         have hfz67_3:=blk_frozen BK157.out 3
         have hfz67_4:=blk_frozen BK157.out 4
         have hfz67_5:=blk_frozen BK157.out 5
         have hfz67_6:=blk_frozen BK157.out 6
         have hfz67_7:=blk_frozen BK157.out 7
         go_wp2_with (first|((with_reducible refine gate_callee (f:=16) rfl ?_);refine goesL_ (some 80) rfl rfl Try.func16 (by kernel_rfl) rfl #[.agg #[.int .u32 a2_0,.int .u64 a2_1,.int .u64 a2_2,.int .i64 a2_3,.int .i64 a2_4,.int .i64 a2_5,.int .i64 a2_6,.int .i64 a2_7]] rfl (by (try simp only [List.map_toArray,List.map_cons,List.map_nil]);first|done|rfl|(simp only [List.length_drop,List.length_take];rfl)) ?_;(with_reducible refine (gazetteerref10_Right.calls a2_0 a2_1 a2_2 a2_3 a2_4 a2_5 a2_6 a2_7 true _ A61.out).mono ?_);rintro e w68 ⟨rfl,hb⟩;refine ⟨_,rfl,?_⟩;have n0_:=Ak (kB (g:=gb155) (o:=.cells #[.int .u64 a0_0,.slice A0_1 l0_1.length c0_1] 25 (0,0)) (by (with_reducible repeat (first|refine kN ?_ _|refine kD ?_|refine kA ?_ _));exact BK155.out) hb);have n1_:=Ak (kB (g:=gb156) (o:=.cells #[.int .u64 a1_0,.bool a1_1,.int .u64 a1_2] 27 (0,0)) (by (with_reducible repeat (first|refine kN ?_ _|refine kD ?_|refine kA ?_ _));exact BK156.out) hb);have n2_:=Ak (kB (g:=gb157) (o:=.cells #[.int .u32 a2_0,.int .u64 a2_1,.int .u64 a2_2,.int .i64 a2_3,.int .i64 a2_4,.int .i64 a2_5,.int .i64 a2_6,.int .i64 a2_7] 32 (0,0)) (by (with_reducible repeat (first|refine kN ?_ _|refine kD ?_|refine kA ?_ _));exact BK157.out) hb);have n3_:=Ak (below_step (by repeat (first|(with_reducible first|exact HB.out|apply bA|apply bN|apply bD|refine bS ?_ GE155.out|refine bS ?_ GE156.out|refine bS ?_ GE157.out)|exact HB.out)) hb);clear BK155;clear BK156;clear BK157;clear HB;have BK155:=n0_;have BK156:=n1_;have BK157:=n2_;have HB:=n3_;clear n0_ n1_ n2_ n3_;(try clear hb);(try clear hb2);(try clear hk);(try clear hi);have hnb69:=NB155_156.out;have hnc69:=NB156_155.out;have hcz70_0 : w68.cell? ⟨gb155,0,none⟩ = some (.int .u64 a0_0):=(kC BK155.out 0).trans rfl;have hcz70_1 : w68.cell? ⟨gb155,1,none⟩ = some (.slice A0_1 l0_1.length c0_1):=(kC BK155.out 1).trans rfl;have hfz70_0:=blk_frozen BK155.out 0;have hfz70_1:=blk_frozen BK155.out 1;have hcz71_0 : w68.cell? ⟨gb156,0,none⟩ = some (.int .u64 a1_0):=(kC BK156.out 0).trans rfl;have hcz71_1 : w68.cell? ⟨gb156,1,none⟩ = some (.bool a1_1):=(kC BK156.out 1).trans rfl;have hcz71_2 : w68.cell? ⟨gb156,2,none⟩ = some (.int .u64 a1_2):=(kC BK156.out 2).trans rfl;have hfz71_0:=blk_frozen BK156.out 0;have hfz71_1:=blk_frozen BK156.out 1;have hfz71_2:=blk_frozen BK156.out 2;have hcz72_0 : w68.cell? ⟨gb157,0,none⟩ = some (.int .u32 a2_0):=(kC BK157.out 0).trans rfl;have hcz72_1 : w68.cell? ⟨gb157,1,none⟩ = some (.int .u64 a2_1):=(kC BK157.out 1).trans rfl;have hcz72_2 : w68.cell? ⟨gb157,2,none⟩ = some (.int .u64 a2_2):=(kC BK157.out 2).trans rfl;have hcz72_3 : w68.cell? ⟨gb157,3,none⟩ = some (.int .i64 a2_3):=(kC BK157.out 3).trans rfl;have hcz72_4 : w68.cell? ⟨gb157,4,none⟩ = some (.int .i64 a2_4):=(kC BK157.out 4).trans rfl;have hcz72_5 : w68.cell? ⟨gb157,5,none⟩ = some (.int .i64 a2_5):=(kC BK157.out 5).trans rfl;have hcz72_6 : w68.cell? ⟨gb157,6,none⟩ = some (.int .i64 a2_6):=(kC BK157.out 6).trans rfl;have hcz72_7 : w68.cell? ⟨gb157,7,none⟩ = some (.int .i64 a2_7):=(kC BK157.out 7).trans rfl;have hfz72_0:=blk_frozen BK157.out 0;have hfz72_1:=blk_frozen BK157.out 1;have hfz72_2:=blk_frozen BK157.out 2;have hfz72_3:=blk_frozen BK157.out 3;have hfz72_4:=blk_frozen BK157.out 4;have hfz72_5:=blk_frozen BK157.out 5;have hfz72_6:=blk_frozen BK157.out 6;have hfz72_7:=blk_frozen BK157.out 7)|(go_at_call 17;(with_reducible refine (gazetteerref17_Sees.calls kj19 a0_0 _ _ l0_1 a1_0 a1_1 a1_2 a2_0 a2_1 a2_2 a2_3 a2_4 a2_5 a2_6 a2_7 t189 _ ?side1 ?side2 A64.out).mono ?_);(case side1 => repeat (first|exact (Kd.C_below HR0_1.out HB.out)|(with_reducible refine Kd.C_alloc ?_ _)|(with_reducible refine Kd.C_drewN ?_ _)|(with_reducible refine Kd.C_drew ?_)));(case side2 => exact HC0_1.out);rintro e w73 ⟨rfl,hb⟩;have n0_:=Ak (kB (g:=gb155) (o:=.cells #[.int .u64 a0_0,.slice A0_1 l0_1.length c0_1] 25 (0,0)) (by (with_reducible repeat (first|refine kN ?_ _|refine kD ?_|refine kA ?_ _));exact BK155.out) hb);have n1_:=Ak (kB (g:=gb156) (o:=.cells #[.int .u64 a1_0,.bool a1_1,.int .u64 a1_2] 27 (0,0)) (by (with_reducible repeat (first|refine kN ?_ _|refine kD ?_|refine kA ?_ _));exact BK156.out) hb);have n2_:=Ak (kB (g:=gb157) (o:=.cells #[.int .u32 a2_0,.int .u64 a2_1,.int .u64 a2_2,.int .i64 a2_3,.int .i64 a2_4,.int .i64 a2_5,.int .i64 a2_6,.int .i64 a2_7] 32 (0,0)) (by (with_reducible repeat (first|refine kN ?_ _|refine kD ?_|refine kA ?_ _));exact BK157.out) hb);have n3_:=Ak (below_step (by repeat (first|(with_reducible first|exact HB.out|apply bA|apply bN|apply bD|refine bS ?_ GE155.out|refine bS ?_ GE156.out|refine bS ?_ GE157.out)|exact HB.out)) hb);clear BK155;clear BK156;clear BK157;clear HB;have BK155:=n0_;have BK156:=n1_;have BK157:=n2_;have HB:=n3_;clear n0_ n1_ n2_ n3_;(try clear hb);(try clear hb2);(try clear hk);(try clear hi)))
         go_ret
         exact ⟨by first|rfl|(simp [errW_none,errW_some] <;> rfl)|(simp [*,errW_none,errW_some] <;> rfl),by repeat (first|(with_reducible first|exact HB.out|apply bA|apply bN|apply bD|refine bS ?_ GE155.out|refine bS ?_ GE156.out|refine bS ?_ GE157.out)|exact HB.out)⟩
        ·rw [if_neg c63] at H
         have c63b0 : (t169 == 0) = false:=beq_eq_false_iff_ne.mpr c63
         have c63b1 : (t169 != 0) = true:=bne_iff_ne.mpr c63
         obtain rfl:=Option.some.inj H
         have hnb74:=NB157_155.out
         have hnc74:=NB155_157.out
         have hnb75:=NB157_156.out
         have hnc75:=NB156_157.out
         have hcz76_0 : wc.cell? ⟨gb157,0,none⟩ = some (.int .u32 a2_0):=(kC BK157.out 0).trans rfl
         have hcz76_1 : wc.cell? ⟨gb157,1,none⟩ = some (.int .u64 a2_1):=(kC BK157.out 1).trans rfl
         have hcz76_2 : wc.cell? ⟨gb157,2,none⟩ = some (.int .u64 a2_2):=(kC BK157.out 2).trans rfl
         have hcz76_3 : wc.cell? ⟨gb157,3,none⟩ = some (.int .i64 a2_3):=(kC BK157.out 3).trans rfl
         have hcz76_4 : wc.cell? ⟨gb157,4,none⟩ = some (.int .i64 a2_4):=(kC BK157.out 4).trans rfl
         have hcz76_5 : wc.cell? ⟨gb157,5,none⟩ = some (.int .i64 a2_5):=(kC BK157.out 5).trans rfl
         have hcz76_6 : wc.cell? ⟨gb157,6,none⟩ = some (.int .i64 a2_6):=(kC BK157.out 6).trans rfl
         have hcz76_7 : wc.cell? ⟨gb157,7,none⟩ = some (.int .i64 a2_7):=(kC BK157.out 7).trans rfl
         have hfz76_0:=blk_frozen BK157.out 0
         have hfz76_1:=blk_frozen BK157.out 1
         have hfz76_2:=blk_frozen BK157.out 2
         have hfz76_3:=blk_frozen BK157.out 3
         have hfz76_4:=blk_frozen BK157.out 4
         have hfz76_5:=blk_frozen BK157.out 5
         have hfz76_6:=blk_frozen BK157.out 6
         have hfz76_7:=blk_frozen BK157.out 7
         go_wp2_with (first|((with_reducible refine gate_callee (f:=16) rfl ?_);refine goesL_ (some 80) rfl rfl Try.func16 (by kernel_rfl) rfl #[.agg #[.int .u32 a2_0,.int .u64 a2_1,.int .u64 a2_2,.int .i64 a2_3,.int .i64 a2_4,.int .i64 a2_5,.int .i64 a2_6,.int .i64 a2_7]] rfl (by (try simp only [List.map_toArray,List.map_cons,List.map_nil]);first|done|rfl|(simp only [List.length_drop,List.length_take];rfl)) ?_;(with_reducible refine (gazetteerref10_Right.calls a2_0 a2_1 a2_2 a2_3 a2_4 a2_5 a2_6 a2_7 true _ A61.out).mono ?_);rintro e w77 ⟨rfl,hb⟩;refine ⟨_,rfl,?_⟩;have n0_:=Ak (kB (g:=gb155) (o:=.cells #[.int .u64 a0_0,.slice A0_1 l0_1.length c0_1] 25 (0,0)) (by (with_reducible repeat (first|refine kN ?_ _|refine kD ?_|refine kA ?_ _));exact BK155.out) hb);have n1_:=Ak (kB (g:=gb156) (o:=.cells #[.int .u64 a1_0,.bool a1_1,.int .u64 a1_2] 27 (0,0)) (by (with_reducible repeat (first|refine kN ?_ _|refine kD ?_|refine kA ?_ _));exact BK156.out) hb);have n2_:=Ak (kB (g:=gb157) (o:=.cells #[.int .u32 a2_0,.int .u64 a2_1,.int .u64 a2_2,.int .i64 a2_3,.int .i64 a2_4,.int .i64 a2_5,.int .i64 a2_6,.int .i64 a2_7] 32 (0,0)) (by (with_reducible repeat (first|refine kN ?_ _|refine kD ?_|refine kA ?_ _));exact BK157.out) hb);have n3_:=Ak (below_step (by repeat (first|(with_reducible first|exact HB.out|apply bA|apply bN|apply bD|refine bS ?_ GE155.out|refine bS ?_ GE156.out|refine bS ?_ GE157.out)|exact HB.out)) hb);clear BK155;clear BK156;clear BK157;clear HB;have BK155:=n0_;have BK156:=n1_;have BK157:=n2_;have HB:=n3_;clear n0_ n1_ n2_ n3_;(try clear hb);(try clear hb2);(try clear hk);(try clear hi)))
         go_ret
         exact ⟨by first|rfl|(simp [errW_none,errW_some] <;> rfl)|(simp [*,errW_none,errW_some] <;> rfl),by repeat (first|(with_reducible first|exact HB.out|apply bA|apply bN|apply bD|refine bS ?_ GE155.out|refine bS ?_ GE156.out|refine bS ?_ GE157.out)|exact HB.out)⟩
       ·replace c62:=Bool.eq_false_iff.mpr c62
        subst c62
        have H1 : (if t168 = true then (some false) else (some (t169 == 200))) = some r:=by rw [if_neg (show ¬ (false = true) by decide)] at H;exact H
        clear H
        have H:=H1
        clear H1
        by_cases c78 : t168 = true
        ·subst c78
         have H1 : (some false) = some r:=by rw [if_pos rfl] at H;exact H
         clear H
         have H:=H1
         clear H1
         obtain rfl:=Option.some.inj H
         have hnb79:=NB157_155.out
         have hnc79:=NB155_157.out
         have hnb80:=NB157_156.out
         have hnc80:=NB156_157.out
         have hcz81_0 : wc.cell? ⟨gb157,0,none⟩ = some (.int .u32 a2_0):=(kC BK157.out 0).trans rfl
         have hcz81_1 : wc.cell? ⟨gb157,1,none⟩ = some (.int .u64 a2_1):=(kC BK157.out 1).trans rfl
         have hcz81_2 : wc.cell? ⟨gb157,2,none⟩ = some (.int .u64 a2_2):=(kC BK157.out 2).trans rfl
         have hcz81_3 : wc.cell? ⟨gb157,3,none⟩ = some (.int .i64 a2_3):=(kC BK157.out 3).trans rfl
         have hcz81_4 : wc.cell? ⟨gb157,4,none⟩ = some (.int .i64 a2_4):=(kC BK157.out 4).trans rfl
         have hcz81_5 : wc.cell? ⟨gb157,5,none⟩ = some (.int .i64 a2_5):=(kC BK157.out 5).trans rfl
         have hcz81_6 : wc.cell? ⟨gb157,6,none⟩ = some (.int .i64 a2_6):=(kC BK157.out 6).trans rfl
         have hcz81_7 : wc.cell? ⟨gb157,7,none⟩ = some (.int .i64 a2_7):=(kC BK157.out 7).trans rfl
         have hfz81_0:=blk_frozen BK157.out 0
         have hfz81_1:=blk_frozen BK157.out 1
         have hfz81_2:=blk_frozen BK157.out 2
         have hfz81_3:=blk_frozen BK157.out 3
         have hfz81_4:=blk_frozen BK157.out 4
         have hfz81_5:=blk_frozen BK157.out 5
         have hfz81_6:=blk_frozen BK157.out 6
         have hfz81_7:=blk_frozen BK157.out 7
         go_wp2_with (first|((with_reducible refine gate_callee (f:=16) rfl ?_);refine goesL_ (some 80) rfl rfl Try.func16 (by kernel_rfl) rfl #[.agg #[.int .u32 a2_0,.int .u64 a2_1,.int .u64 a2_2,.int .i64 a2_3,.int .i64 a2_4,.int .i64 a2_5,.int .i64 a2_6,.int .i64 a2_7]] rfl (by (try simp only [List.map_toArray,List.map_cons,List.map_nil]);first|done|rfl|(simp only [List.length_drop,List.length_take];rfl)) ?_;(with_reducible refine (gazetteerref10_Right.calls a2_0 a2_1 a2_2 a2_3 a2_4 a2_5 a2_6 a2_7 false _ A61.out).mono ?_);rintro e w82 ⟨rfl,hb⟩;refine ⟨_,rfl,?_⟩;have n0_:=Ak (kB (g:=gb155) (o:=.cells #[.int .u64 a0_0,.slice A0_1 l0_1.length c0_1] 25 (0,0)) (by (with_reducible repeat (first|refine kN ?_ _|refine kD ?_|refine kA ?_ _));exact BK155.out) hb);have n1_:=Ak (kB (g:=gb156) (o:=.cells #[.int .u64 a1_0,.bool a1_1,.int .u64 a1_2] 27 (0,0)) (by (with_reducible repeat (first|refine kN ?_ _|refine kD ?_|refine kA ?_ _));exact BK156.out) hb);have n2_:=Ak (kB (g:=gb157) (o:=.cells #[.int .u32 a2_0,.int .u64 a2_1,.int .u64 a2_2,.int .i64 a2_3,.int .i64 a2_4,.int .i64 a2_5,.int .i64 a2_6,.int .i64 a2_7] 32 (0,0)) (by (with_reducible repeat (first|refine kN ?_ _|refine kD ?_|refine kA ?_ _));exact BK157.out) hb);have n3_:=Ak (below_step (by repeat (first|(with_reducible first|exact HB.out|apply bA|apply bN|apply bD|refine bS ?_ GE155.out|refine bS ?_ GE156.out|refine bS ?_ GE157.out)|exact HB.out)) hb);clear BK155;clear BK156;clear BK157;clear HB;have BK155:=n0_;have BK156:=n1_;have BK157:=n2_;have HB:=n3_;clear n0_ n1_ n2_ n3_;(try clear hb);(try clear hb2);(try clear hk);(try clear hi)))
         go_ret
         exact ⟨by first|rfl|(simp [errW_none,errW_some] <;> rfl)|(simp [*,errW_none,errW_some] <;> rfl),by repeat (first|(with_reducible first|exact HB.out|apply bA|apply bN|apply bD|refine bS ?_ GE155.out|refine bS ?_ GE156.out|refine bS ?_ GE157.out)|exact HB.out)⟩
        ·replace c78:=Bool.eq_false_iff.mpr c78
         subst c78
         have H1 : (some (t169 == 200)) = some r:=by rw [if_neg (show ¬ (false = true) by decide)] at H;exact H
         clear H
         have H:=H1
         clear H1
         obtain rfl:=Option.some.inj H
         have hnb83:=NB157_155.out
         have hnc83:=NB155_157.out
         have hnb84:=NB157_156.out
         have hnc84:=NB156_157.out
         have hcz85_0 : wc.cell? ⟨gb157,0,none⟩ = some (.int .u32 a2_0):=(kC BK157.out 0).trans rfl
         have hcz85_1 : wc.cell? ⟨gb157,1,none⟩ = some (.int .u64 a2_1):=(kC BK157.out 1).trans rfl
         have hcz85_2 : wc.cell? ⟨gb157,2,none⟩ = some (.int .u64 a2_2):=(kC BK157.out 2).trans rfl
         have hcz85_3 : wc.cell? ⟨gb157,3,none⟩ = some (.int .i64 a2_3):=(kC BK157.out 3).trans rfl
         have hcz85_4 : wc.cell? ⟨gb157,4,none⟩ = some (.int .i64 a2_4):=(kC BK157.out 4).trans rfl
         have hcz85_5 : wc.cell? ⟨gb157,5,none⟩ = some (.int .i64 a2_5):=(kC BK157.out 5).trans rfl
         have hcz85_6 : wc.cell? ⟨gb157,6,none⟩ = some (.int .i64 a2_6):=(kC BK157.out 6).trans rfl
         have hcz85_7 : wc.cell? ⟨gb157,7,none⟩ = some (.int .i64 a2_7):=(kC BK157.out 7).trans rfl
         have hfz85_0:=blk_frozen BK157.out 0
         have hfz85_1:=blk_frozen BK157.out 1
         have hfz85_2:=blk_frozen BK157.out 2
         have hfz85_3:=blk_frozen BK157.out 3
         have hfz85_4:=blk_frozen BK157.out 4
         have hfz85_5:=blk_frozen BK157.out 5
         have hfz85_6:=blk_frozen BK157.out 6
         have hfz85_7:=blk_frozen BK157.out 7
         go_wp2_with (first|((with_reducible refine gate_callee (f:=16) rfl ?_);refine goesL_ (some 80) rfl rfl Try.func16 (by kernel_rfl) rfl #[.agg #[.int .u32 a2_0,.int .u64 a2_1,.int .u64 a2_2,.int .i64 a2_3,.int .i64 a2_4,.int .i64 a2_5,.int .i64 a2_6,.int .i64 a2_7]] rfl (by (try simp only [List.map_toArray,List.map_cons,List.map_nil]);first|done|rfl|(simp only [List.length_drop,List.length_take];rfl)) ?_;(with_reducible refine (gazetteerref10_Right.calls a2_0 a2_1 a2_2 a2_3 a2_4 a2_5 a2_6 a2_7 false _ A61.out).mono ?_);rintro e w86 ⟨rfl,hb⟩;refine ⟨_,rfl,?_⟩;have n0_:=Ak (kB (g:=gb155) (o:=.cells #[.int .u64 a0_0,.slice A0_1 l0_1.length c0_1] 25 (0,0)) (by (with_reducible repeat (first|refine kN ?_ _|refine kD ?_|refine kA ?_ _));exact BK155.out) hb);have n1_:=Ak (kB (g:=gb156) (o:=.cells #[.int .u64 a1_0,.bool a1_1,.int .u64 a1_2] 27 (0,0)) (by (with_reducible repeat (first|refine kN ?_ _|refine kD ?_|refine kA ?_ _));exact BK156.out) hb);have n2_:=Ak (kB (g:=gb157) (o:=.cells #[.int .u32 a2_0,.int .u64 a2_1,.int .u64 a2_2,.int .i64 a2_3,.int .i64 a2_4,.int .i64 a2_5,.int .i64 a2_6,.int .i64 a2_7] 32 (0,0)) (by (with_reducible repeat (first|refine kN ?_ _|refine kD ?_|refine kA ?_ _));exact BK157.out) hb);have n3_:=Ak (below_step (by repeat (first|(with_reducible first|exact HB.out|apply bA|apply bN|apply bD|refine bS ?_ GE155.out|refine bS ?_ GE156.out|refine bS ?_ GE157.out)|exact HB.out)) hb);clear BK155;clear BK156;clear BK157;clear HB;have BK155:=n0_;have BK156:=n1_;have BK157:=n2_;have HB:=n3_;clear n0_ n1_ n2_ n3_;(try clear hb);(try clear hb2);(try clear hk);(try clear hi)))
         go_ret
         exact ⟨by first|rfl|(simp [errW_none,errW_some] <;> rfl)|(simp [*,errW_none,errW_some] <;> rfl),by repeat (first|(with_reducible first|exact HB.out|apply bA|apply bN|apply bD|refine bS ?_ GE155.out|refine bS ?_ GE156.out|refine bS ?_ GE157.out)|exact HB.out)⟩
   ·replace c19:=Bool.eq_false_iff.mpr c19
    subst c19
    have H1 : (if t163 = 270 then (if t168 = true then (some false) else (if t169 = 270 then ((gazetteerlaw17_copied.f a0_0 l0_1).bind fun bt171 => ((vision_Counts.f bt171.1 bt171.2 a1_0 a1_1 a1_2 a2_1).bind fun t175 => (some (!t175)))) else (some false))) else (some false)) = some r:=by rw [if_neg (show ¬ (false = true) by decide)] at H;exact H
    clear H
    have H:=H1
    clear H1
    by_cases c87 : t163 = 270
    ·rw [if_pos c87] at H
     have c87b0 : (t163 == 270) = true:=beq_iff_eq.mpr c87
     have c87b1 : (t163 != 270) = false:=bne_eq_false_iff_eq.mpr c87
     clear c87
     by_cases c88 : t168 = true
     ·subst c88
      have H1 : (some false) = some r:=by rw [if_pos rfl] at H;exact H
      clear H
      have H:=H1
      clear H1
      obtain rfl:=Option.some.inj H
      go_enter Try.func3,Try.ntmps3
      try go_wp2_with (first|((with_reducible refine gate_dst (N:=3) rfl ?_);refine box_event ?hg (N:=3) ?hd (cs:=#[.int .u64 a0_0,.slice A0_1 l0_1.length c0_1]) (t:=25) ?hr ?_;(case hd => rfl);(case hg => rfl);(case hr => first|(go_simp;done)|(go_simp;rfl));intro gb155 hg w89 hbox hb;have n0_:=Ak (below_step (by repeat (first|(with_reducible first|exact HB.out|apply bA|apply bN|apply bD)|exact HB.out)) hb);have n1_:=Ak (hbox);have n2_:=Ak ((by rw [hg];exact (below_size (by repeat (first|(with_reducible first|exact HB.out|apply bA|apply bN|apply bD)|exact HB.out))) : w.heap.size ≤ gb155));have n3_:=Ak ((by rw [hg];exact (below_size (by repeat (first|(with_reducible first|exact HB.out|apply bA|apply bN|apply bD)|exact HB.out))) : w.heap.size ≤ gb155));clear HB;have HB:=n0_;have BK155:=n1_;have GW155:=n2_;have GE155:=n3_;clear n0_ n1_ n2_ n3_;clear hb hbox hg)|((with_reducible refine gate_dst (N:=4) rfl ?_);refine box_event ?hg (N:=4) ?hd (cs:=#[.int .u64 a1_0,.bool a1_1,.int .u64 a1_2]) (t:=27) ?hr ?_;(case hd => rfl);(case hg => rfl);(case hr => first|(go_simp;done)|(go_simp;rfl));intro gb156 hg w90 hbox hb;have n0_:=Ak (kB (g:=gb155) (o:=.cells #[.int .u64 a0_0,.slice A0_1 l0_1.length c0_1] 25 (0,0)) (by (with_reducible repeat (first|refine kN ?_ _|refine kD ?_|refine kA ?_ _));exact BK155.out) hb);have n1_:=Ak (below_step (by repeat (first|(with_reducible first|exact HB.out|apply bA|apply bN|apply bD|refine bS ?_ GE155.out)|exact HB.out)) hb);have n2_:=Ak (hbox);have n3_:=Ak ((by rw [hg];exact (below_size (by repeat (first|(with_reducible first|exact HB.out|apply bA|apply bN|apply bD|refine bS ?_ GE155.out)|exact HB.out))) : w.heap.size ≤ gb156));have n4_:=Ak ((by rw [hg];exact (below_size (by repeat (first|(with_reducible first|exact HB.out|apply bA|apply bN|apply bD|refine bS ?_ GE155.out)|exact HB.out))) : w.heap.size ≤ gb156));have n5_:=Ak ((by rw [hg];exact Nat.ne_of_lt (blk_lt (g:=gb155) (o:=.cells #[.int .u64 a0_0,.slice A0_1 l0_1.length c0_1] 25 (0,0)) (by (with_reducible repeat (first|refine kN ?_ _|refine kD ?_|refine kA ?_ _));exact BK155.out)) : gb155 ≠ gb156));have n6_:=Ak ((by rw [hg];exact Nat.ne_of_gt (blk_lt (g:=gb155) (o:=.cells #[.int .u64 a0_0,.slice A0_1 l0_1.length c0_1] 25 (0,0)) (by (with_reducible repeat (first|refine kN ?_ _|refine kD ?_|refine kA ?_ _));exact BK155.out)) : gb156 ≠ gb155));clear BK155;clear HB;have BK155:=n0_;have HB:=n1_;have BK156:=n2_;have GW156:=n3_;have GE156:=n4_;have NB155_156:=n5_;have NB156_155:=n6_;clear n0_ n1_ n2_ n3_ n4_ n5_ n6_;clear hb hbox hg)|((with_reducible refine gate_dst (N:=5) rfl ?_);refine box_event ?hg (N:=5) ?hd (cs:=#[.int .u32 a2_0,.int .u64 a2_1,.int .u64 a2_2,.int .i64 a2_3,.int .i64 a2_4,.int .i64 a2_5,.int .i64 a2_6,.int .i64 a2_7]) (t:=32) ?hr ?_;(case hd => rfl);(case hg => rfl);(case hr => first|(go_simp;done)|(go_simp;rfl));intro gb157 hg w91 hbox hb;have n0_:=Ak (kB (g:=gb155) (o:=.cells #[.int .u64 a0_0,.slice A0_1 l0_1.length c0_1] 25 (0,0)) (by (with_reducible repeat (first|refine kN ?_ _|refine kD ?_|refine kA ?_ _));exact BK155.out) hb);have n1_:=Ak (kB (g:=gb156) (o:=.cells #[.int .u64 a1_0,.bool a1_1,.int .u64 a1_2] 27 (0,0)) (by (with_reducible repeat (first|refine kN ?_ _|refine kD ?_|refine kA ?_ _));exact BK156.out) hb);have n2_:=Ak (below_step (by repeat (first|(with_reducible first|exact HB.out|apply bA|apply bN|apply bD|refine bS ?_ GE155.out|refine bS ?_ GE156.out)|exact HB.out)) hb);have n3_:=Ak (hbox);have n4_:=Ak ((by rw [hg];exact (below_size (by repeat (first|(with_reducible first|exact HB.out|apply bA|apply bN|apply bD|refine bS ?_ GE155.out|refine bS ?_ GE156.out)|exact HB.out))) : w.heap.size ≤ gb157));have n5_:=Ak ((by rw [hg];exact (below_size (by repeat (first|(with_reducible first|exact HB.out|apply bA|apply bN|apply bD|refine bS ?_ GE155.out|refine bS ?_ GE156.out)|exact HB.out))) : w.heap.size ≤ gb157));have n6_:=Ak ((by rw [hg];exact Nat.ne_of_lt (blk_lt (g:=gb155) (o:=.cells #[.int .u64 a0_0,.slice A0_1 l0_1.length c0_1] 25 (0,0)) (by (with_reducible repeat (first|refine kN ?_ _|refine kD ?_|refine kA ?_ _));exact BK155.out)) : gb155 ≠ gb157));have n7_:=Ak ((by rw [hg];exact Nat.ne_of_gt (blk_lt (g:=gb155) (o:=.cells #[.int .u64 a0_0,.slice A0_1 l0_1.length c0_1] 25 (0,0)) (by (with_reducible repeat (first|refine kN ?_ _|refine kD ?_|refine kA ?_ _));exact BK155.out)) : gb157 ≠ gb155));have n8_:=Ak ((by rw [hg];exact Nat.ne_of_lt (blk_lt (g:=gb156) (o:=.cells #[.int .u64 a1_0,.bool a1_1,.int .u64 a1_2] 27 (0,0)) (by (with_reducible repeat (first|refine kN ?_ _|refine kD ?_|refine kA ?_ _));exact BK156.out)) : gb156 ≠ gb157));have n9_:=Ak ((by rw [hg];exact Nat.ne_of_gt (blk_lt (g:=gb156) (o:=.cells #[.int .u64 a1_0,.bool a1_1,.int .u64 a1_2] 27 (0,0)) (by (with_reducible repeat (first|refine kN ?_ _|refine kD ?_|refine kA ?_ _));exact BK156.out)) : gb157 ≠ gb156));clear BK155;clear BK156;clear HB;have BK155:=n0_;have BK156:=n1_;have HB:=n2_;have BK157:=n3_;have GW157:=n4_;have GE157:=n5_;have NB155_157:=n6_;have NB157_155:=n7_;have NB156_157:=n8_;have NB157_156:=n9_;clear n0_ n1_ n2_ n3_ n4_ n5_ n6_ n7_ n8_ n9_;clear hb hbox hg)|((with_reducible refine gate_callee (f:=9) rfl ?_);refine goesL_ (some 10) rfl rfl Try.func9 (by kernel_rfl) rfl #[] rfl (by (try simp only [List.map_toArray,List.map_cons,List.map_nil]);first|done|rfl|(simp only [List.length_drop,List.length_take];rfl)) ?_;(with_reducible refine (gazetteerlaw17_wakes.calls  true _ A4.out).mono ?_);rintro e w92 ⟨rfl,hb⟩;refine ⟨_,rfl,?_⟩;have n0_:=Ak (kB (g:=gb155) (o:=.cells #[.int .u64 a0_0,.slice A0_1 l0_1.length c0_1] 25 (0,0)) (by (with_reducible repeat (first|refine kN ?_ _|refine kD ?_|refine kA ?_ _));exact BK155.out) hb);have n1_:=Ak (kB (g:=gb156) (o:=.cells #[.int .u64 a1_0,.bool a1_1,.int .u64 a1_2] 27 (0,0)) (by (with_reducible repeat (first|refine kN ?_ _|refine kD ?_|refine kA ?_ _));exact BK156.out) hb);have n2_:=Ak (kB (g:=gb157) (o:=.cells #[.int .u32 a2_0,.int .u64 a2_1,.int .u64 a2_2,.int .i64 a2_3,.int .i64 a2_4,.int .i64 a2_5,.int .i64 a2_6,.int .i64 a2_7] 32 (0,0)) (by (with_reducible repeat (first|refine kN ?_ _|refine kD ?_|refine kA ?_ _));exact BK157.out) hb);have n3_:=Ak (below_step (by repeat (first|(with_reducible first|exact HB.out|apply bA|apply bN|apply bD|refine bS ?_ GE155.out|refine bS ?_ GE156.out|refine bS ?_ GE157.out)|exact HB.out)) hb);clear BK155;clear BK156;clear BK157;clear HB;have BK155:=n0_;have BK156:=n1_;have BK157:=n2_;have HB:=n3_;clear n0_ n1_ n2_ n3_;(try clear hb);(try clear hb2);(try clear hk);(try clear hi);have hnb93:=NB155_156.out;have hnc93:=NB156_155.out;have hnb94:=NB155_157.out;have hnc94:=NB157_155.out;have hcz95_0 : w92.cell? ⟨gb155,0,none⟩ = some (.int .u64 a0_0):=(kC BK155.out 0).trans rfl;have hcz95_1 : w92.cell? ⟨gb155,1,none⟩ = some (.slice A0_1 l0_1.length c0_1):=(kC BK155.out 1).trans rfl;have hfz95_0:=blk_frozen BK155.out 0;have hfz95_1:=blk_frozen BK155.out 1)|((with_reducible refine gate_callee (f:=11) rfl ?_);refine goesL_ (some 17) rfl rfl Try.func11 (by kernel_rfl) rfl #[.agg #[.int .u64 a0_0,.slice A0_1 l0_1.length c0_1]] rfl (by (try simp only [List.map_toArray,List.map_cons,List.map_nil]);first|done|rfl|(simp only [List.length_drop,List.length_take];rfl)) ?_;(with_reducible refine (gazetteerlaw17_copied.calls a0_0 _ _ l0_1 t159 t160 _ ?side1 ?side2 A14.out).mono ?_);(case side1 => repeat (first|exact (Kd.C_below HR0_1.out HB.out)|(with_reducible refine Kd.C_alloc ?_ _)|(with_reducible refine Kd.C_drewN ?_ _)|(with_reducible refine Kd.C_drew ?_)));(case side2 => exact HC0_1.out);rintro e w96 ⟨v161,rfl,ho0,hb⟩;refine ⟨_,rfl,?_⟩;have n0_:=Ak (Kd.R_lower ho0 (below_size (by repeat (first|(with_reducible first|exact HB.out|apply bA|apply bN|apply bD|refine bS ?_ GE155.out|refine bS ?_ GE156.out|refine bS ?_ GE157.out)|exact HB.out))));have n1_:=Ak (kB (g:=gb155) (o:=.cells #[.int .u64 a0_0,.slice A0_1 l0_1.length c0_1] 25 (0,0)) (by (with_reducible repeat (first|refine kN ?_ _|refine kD ?_|refine kA ?_ _));exact BK155.out) hb);have n2_:=Ak (kB (g:=gb156) (o:=.cells #[.int .u64 a1_0,.bool a1_1,.int .u64 a1_2] 27 (0,0)) (by (with_reducible repeat (first|refine kN ?_ _|refine kD ?_|refine kA ?_ _));exact BK156.out) hb);have n3_:=Ak (kB (g:=gb157) (o:=.cells #[.int .u32 a2_0,.int .u64 a2_1,.int .u64 a2_2,.int .i64 a2_3,.int .i64 a2_4,.int .i64 a2_5,.int .i64 a2_6,.int .i64 a2_7] 32 (0,0)) (by (with_reducible repeat (first|refine kN ?_ _|refine kD ?_|refine kA ?_ _));exact BK157.out) hb);have n4_:=Ak (below_step (by repeat (first|(with_reducible first|exact HB.out|apply bA|apply bN|apply bD|refine bS ?_ GE155.out|refine bS ?_ GE156.out|refine bS ?_ GE157.out)|exact HB.out)) hb);clear BK155;clear BK156;clear BK157;clear HB;have HO162:=n0_;have BK155:=n1_;have BK156:=n2_;have BK157:=n3_;have HB:=n4_;clear n0_ n1_ n2_ n3_ n4_;(try clear hb);(try clear hb2);(try clear hk);(try clear hi);(try clear ho0);obtain ⟨Ao97,co97,eo97⟩:=Kd.R_slice HO162.out;subst eo97)|((with_reducible refine gate_callee (f:=10) rfl ?_);refine goesL_ (some 18) rfl rfl Try.func10 (by kernel_rfl) rfl #[.agg #[.int .u64 t159,.slice Ao97 t160.length co97]] rfl (by (try simp only [List.map_toArray,List.map_cons,List.map_nil]);first|done|rfl|(simp only [List.length_drop,List.length_take];rfl)) ?_;(with_reducible refine (vision_Check.calls t159 _ _ t160 t163 _ ?side1 ?side2 A15.out).mono ?_);(case side1 => repeat (first|exact (Kd.R_reads' HO162.out).2.2|(with_reducible refine Kd.C_alloc ?_ _)|(with_reducible refine Kd.C_drewN ?_ _)|(with_reducible refine Kd.C_drew ?_)));(case side2 => exact (Kd.R_reads' HO162.out).2.1);rintro e w98 ⟨rfl,hb⟩;refine ⟨_,rfl,?_⟩;have n0_:=Ak (Kd.R_below (by (with_reducible repeat (first|apply Kd.R_alloc|apply Kd.R_drewN|apply Kd.R_drew));exact HO162.out) hb);have n1_:=Ak (kB (g:=gb155) (o:=.cells #[.int .u64 a0_0,.slice A0_1 l0_1.length c0_1] 25 (0,0)) (by (with_reducible repeat (first|refine kN ?_ _|refine kD ?_|refine kA ?_ _));exact BK155.out) hb);have n2_:=Ak (kB (g:=gb156) (o:=.cells #[.int .u64 a1_0,.bool a1_1,.int .u64 a1_2] 27 (0,0)) (by (with_reducible repeat (first|refine kN ?_ _|refine kD ?_|refine kA ?_ _));exact BK156.out) hb);have n3_:=Ak (kB (g:=gb157) (o:=.cells #[.int .u32 a2_0,.int .u64 a2_1,.int .u64 a2_2,.int .i64 a2_3,.int .i64 a2_4,.int .i64 a2_5,.int .i64 a2_6,.int .i64 a2_7] 32 (0,0)) (by (with_reducible repeat (first|refine kN ?_ _|refine kD ?_|refine kA ?_ _));exact BK157.out) hb);have n4_:=Ak (below_step (by repeat (first|(with_reducible first|exact HB.out|apply bA|apply bN|apply bD|refine bS ?_ GE155.out|refine bS ?_ GE156.out|refine bS ?_ GE157.out)|exact HB.out)) hb);clear HO162;clear BK155;clear BK156;clear BK157;clear HB;have HO162:=n0_;have BK155:=n1_;have BK156:=n2_;have BK157:=n3_;have HB:=n4_;clear n0_ n1_ n2_ n3_ n4_;(try clear hb);(try clear hb2);(try clear hk);(try clear hi)))
      have n0_:=Ak (Kd.R_drew HO162.out)
      have n1_:=Ak (kD BK155.out)
      have n2_:=Ak (kD BK156.out)
      have n3_:=Ak (kD BK157.out)
      have n4_:=Ak (bD HB.out)
      clear HO162
      clear BK155
      clear BK156
      clear BK157
      clear HB
      have HO162:=n0_
      have BK155:=n1_
      have BK156:=n2_
      have BK157:=n3_
      have HB:=n4_
      clear n0_ n1_ n2_ n3_ n4_
      refine start_ (n:=10) (S:=fun w' => w'.cell? ⟨gb155,0,none⟩ = some (.int .u64 a0_0)∧w'.cell? ⟨gb155,1,none⟩ = some (.slice A0_1 l0_1.length c0_1)∧w'.cell? ⟨gb156,0,none⟩ = some (.int .u64 a1_0)∧w'.cell? ⟨gb156,1,none⟩ = some (.bool a1_1)∧w'.cell? ⟨gb156,2,none⟩ = some (.int .u64 a1_2)∧w'.cell? ⟨gb157,0,none⟩ = some (.int .u32 a2_0)∧w'.cell? ⟨gb157,1,none⟩ = some (.int .u64 a2_1)∧w'.cell? ⟨gb157,2,none⟩ = some (.int .u64 a2_2)∧w'.cell? ⟨gb157,3,none⟩ = some (.int .i64 a2_3)∧w'.cell? ⟨gb157,4,none⟩ = some (.int .i64 a2_4)∧w'.cell? ⟨gb157,5,none⟩ = some (.int .i64 a2_5)∧w'.cell? ⟨gb157,6,none⟩ = some (.int .i64 a2_6)∧w'.cell? ⟨gb157,7,none⟩ = some (.int .i64 a2_7)) (ds:=[]) #[ff,ff,ff,ff,ff,ff,ff,ff,ff,ff] (by kernel_rfl) rfl rfl ⟨(kC BK155.out 0).trans rfl,(kC BK155.out 1).trans rfl,(kC BK156.out 0).trans rfl,(kC BK156.out 1).trans rfl,(kC BK156.out 2).trans rfl,(kC BK157.out 0).trans rfl,(kC BK157.out 1).trans rfl,(kC BK157.out 2).trans rfl,(kC BK157.out 3).trans rfl,(kC BK157.out 4).trans rfl,(kC BK157.out 5).trans rfl,(kC BK157.out 6).trans rfl,(kC BK157.out 7).trans rfl⟩ (fun hHeld => ?_);refine with_tabW gazetteerlaw17_VisionCounts.tab6 gazetteerlaw17_VisionCounts.bits6 (fun HT_ HW_ => ?_)
      generalize w98.drew = w99 at HO162 BK155 BK156 BK157 HB hHeld ⊢
      refine take_ (i:=0) (N:=some 20) (v:=?_) (a':=?_) #[tt,ff,ff,ff,ff,ff,ff,ff,ff,ff] rfl rfl (take_ofW HT_.out HW_.out (by kernel_rfl)) (fun _ _ _ h => h) (Or.inl ⟨by rfl,?_⟩) hHeld ?_ ?_
      rotate_left
      ·rintro w' ⟨s0,s1,s2,s3,s4,s5,s6,s7,s8,s9,s10,s11,s12⟩
       go_simp
       with_reducible rfl
      rotate_left
      ·simp only [Act.put,sA,sZ,sS,i64_w,i32_w]
       rfl
      refine take_ (i:=2) (N:=some 22) (v:=?_) (a':=?_) #[tt,ff,tt,ff,ff,ff,ff,ff,ff,ff] rfl rfl (take_ofW HT_.out HW_.out (by kernel_rfl)) (fun _ _ _ h => h) (Or.inl ⟨by rfl,?_⟩) hHeld ?_ ?_
      rotate_left
      ·rintro w' ⟨s0,s1,s2,s3,s4,s5,s6,s7,s8,s9,s10,s11,s12⟩
       go_simp
       with_reducible rfl
      rotate_left
      ·simp only [Act.put,sA,sZ,sS,i64_w,i32_w]
       rfl
      refine take_ (i:=3) (N:=some 23) (v:=?_) (a':=?_) #[tt,ff,tt,tt,ff,ff,ff,ff,ff,ff] rfl rfl (take_ofW HT_.out HW_.out (by kernel_rfl)) (fun _ _ _ h => h) (Or.inl ⟨by rfl,?_⟩) hHeld ?_ ?_
      rotate_left
      ·rintro w' ⟨s0,s1,s2,s3,s4,s5,s6,s7,s8,s9,s10,s11,s12⟩
       go_simp
       with_reducible rfl
      rotate_left
      ·simp only [Act.put,sA,sZ,sS,i64_w,i32_w]
       rfl
      refine one_ (i:=1) (N:=some 21) #[tt,tt,tt,tt,ff,ff,ff,ff,ff,ff] rfl rfl (one_of HT_.out (by kernel_rfl)) (by decide) (fun K hK => ?_)
      refine goes_ Try.func11 (by kernel_rfl) rfl #[.agg #[.int .u64 a0_0,.slice A0_1 l0_1.length c0_1]] (by rfl) rfl rfl (by (try simp only [List.map_toArray,List.map_cons,List.map_nil]);first|done|rfl|(simp only [List.length_drop,List.length_take];rfl)) ?_
      with_reducible refine (gazetteerlaw17_copied.calls a0_0 _ _ l0_1 t164 t165 _ ?side1 ?side2 A16.out).mono ?_
      (case side1 => repeat (first|exact (Kd.C_below HR0_1.out HB.out)|(with_reducible refine Kd.C_alloc ?_ _)|(with_reducible refine Kd.C_drewN ?_ _)|(with_reducible refine Kd.C_drew ?_)))
      (case side2 => exact HC0_1.out)
      rintro e w100 ⟨v166,rfl,ho0,hb⟩
      refine ⟨_,rfl,?_⟩
      have n0_:=Ak (Kd.R_elder' (by (with_reducible repeat (first|apply Kd.R_alloc|apply Kd.R_drewN|apply Kd.R_drew));exact HO162.out) (Kd.R_base ho0) hb)
      have n1_:=Ak (Kd.R_lower (Kd.R_new' ho0 (Kd.R_lt (by (with_reducible repeat (first|apply Kd.R_alloc|apply Kd.R_drewN|apply Kd.R_drew));exact HO162.out))) (below_size (by repeat (first|(with_reducible first|exact HB.out|apply bA|apply bN|apply bD|refine bS ?_ GE155.out|refine bS ?_ GE156.out|refine bS ?_ GE157.out)|exact HB.out))))
      have n2_:=Ak (kB (g:=gb155) (o:=.cells #[.int .u64 a0_0,.slice A0_1 l0_1.length c0_1] 25 (0,0)) (by (with_reducible repeat (first|refine kN ?_ _|refine kD ?_|refine kA ?_ _));exact BK155.out) hb)
      have n3_:=Ak (kB (g:=gb156) (o:=.cells #[.int .u64 a1_0,.bool a1_1,.int .u64 a1_2] 27 (0,0)) (by (with_reducible repeat (first|refine kN ?_ _|refine kD ?_|refine kA ?_ _));exact BK156.out) hb)
      have n4_:=Ak (kB (g:=gb157) (o:=.cells #[.int .u32 a2_0,.int .u64 a2_1,.int .u64 a2_2,.int .i64 a2_3,.int .i64 a2_4,.int .i64 a2_5,.int .i64 a2_6,.int .i64 a2_7] 32 (0,0)) (by (with_reducible repeat (first|refine kN ?_ _|refine kD ?_|refine kA ?_ _));exact BK157.out) hb)
      have n5_:=Ak (below_step (by repeat (first|(with_reducible first|exact HB.out|apply bA|apply bN|apply bD|refine bS ?_ GE155.out|refine bS ?_ GE156.out|refine bS ?_ GE157.out)|exact HB.out)) hb)
      clear HO162
      clear BK155
      clear BK156
      clear BK157
      clear HB
      have HO162:=n0_
      have HO167:=n1_
      have BK155:=n2_
      have BK156:=n3_
      have BK157:=n4_
      have HB:=n5_
      clear n0_ n1_ n2_ n3_ n4_ n5_
      (try clear hb)
      (try clear hb2)
      (try clear hk)
      (try clear hi)
      (try clear ho0)
      obtain ⟨Ao101,co101,eo101⟩:=Kd.R_slice HO167.out
      (first|subst eo101|(injection eo101 with f1_ f2_ f3_;have f4_:=f1_.symm;have f5_:=f3_.symm;clear f1_ f2_ f3_;subst f4_;subst f5_))
      refine hK.out _ _ ⟨(kC BK155.out 0).trans rfl,(kC BK155.out 1).trans rfl,(kC BK156.out 0).trans rfl,(kC BK156.out 1).trans rfl,(kC BK156.out 2).trans rfl,(kC BK157.out 0).trans rfl,(kC BK157.out 1).trans rfl,(kC BK157.out 2).trans rfl,(kC BK157.out 3).trans rfl,(kC BK157.out 4).trans rfl,(kC BK157.out 5).trans rfl,(kC BK157.out 6).trans rfl,(kC BK157.out 7).trans rfl⟩ (fun hHeld => ?_)
      clear hK K
      refine norm_ (a':=?_) ?_ ?_
      rotate_left
      ·show Act.put _ (some 21) _ = _
       simp only [Act.put,sA,sZ,sS,i64_w,i32_w]
       rfl
      refine one_ (i:=4) (N:=some 24) #[tt,tt,tt,tt,tt,ff,ff,ff,ff,ff] rfl rfl (one_of HT_.out (by kernel_rfl)) (by decide) (fun K hK => ?_)
      refine goes_ Try.func12 (by kernel_rfl) rfl #[.agg #[.int .u64 t164,.slice Ao101 t165.length co101],.agg #[.int .u64 a1_0,.bool a1_1,.int .u64 a1_2],.agg #[.int .u32 a2_0,.int .u64 a2_1,.int .u64 a2_2,.int .i64 a2_3,.int .i64 a2_4,.int .i64 a2_5,.int .i64 a2_6,.int .i64 a2_7]] (by rfl) rfl rfl (by (try simp only [List.map_toArray,List.map_cons,List.map_nil]);first|done|rfl|(simp only [List.length_drop,List.length_take];rfl)) ?_
      with_reducible refine (vision_Sees.calls t164 _ _ t165 a1_0 a1_1 a1_2 a2_0 a2_1 a2_2 a2_3 a2_4 a2_5 a2_6 a2_7 true t169 _ ?side1 ?side2 A17.out).mono ?_
      (case side1 => repeat (first|exact (Kd.R_reads' HO167.out).2.2|(with_reducible refine Kd.C_alloc ?_ _)|(with_reducible refine Kd.C_drewN ?_ _)|(with_reducible refine Kd.C_drew ?_)))
      (case side2 => exact (Kd.R_reads' HO167.out).2.1)
      rintro e w102 ⟨rfl,hb⟩
      refine ⟨_,rfl,?_⟩
      have n0_:=Ak (Kd.R_below (by (with_reducible repeat (first|apply Kd.R_alloc|apply Kd.R_drewN|apply Kd.R_drew));exact HO162.out) hb)
      have n1_:=Ak (Kd.R_below (by (with_reducible repeat (first|apply Kd.R_alloc|apply Kd.R_drewN|apply Kd.R_drew));exact HO167.out) hb)
      have n2_:=Ak (kB (g:=gb155) (o:=.cells #[.int .u64 a0_0,.slice A0_1 l0_1.length c0_1] 25 (0,0)) (by (with_reducible repeat (first|refine kN ?_ _|refine kD ?_|refine kA ?_ _));exact BK155.out) hb)
      have n3_:=Ak (kB (g:=gb156) (o:=.cells #[.int .u64 a1_0,.bool a1_1,.int .u64 a1_2] 27 (0,0)) (by (with_reducible repeat (first|refine kN ?_ _|refine kD ?_|refine kA ?_ _));exact BK156.out) hb)
      have n4_:=Ak (kB (g:=gb157) (o:=.cells #[.int .u32 a2_0,.int .u64 a2_1,.int .u64 a2_2,.int .i64 a2_3,.int .i64 a2_4,.int .i64 a2_5,.int .i64 a2_6,.int .i64 a2_7] 32 (0,0)) (by (with_reducible repeat (first|refine kN ?_ _|refine kD ?_|refine kA ?_ _));exact BK157.out) hb)
      have n5_:=Ak (below_step (by repeat (first|(with_reducible first|exact HB.out|apply bA|apply bN|apply bD|refine bS ?_ GE155.out|refine bS ?_ GE156.out|refine bS ?_ GE157.out)|exact HB.out)) hb)
      clear HO162
      clear HO167
      clear BK155
      clear BK156
      clear BK157
      clear HB
      have HO162:=n0_
      have HO167:=n1_
      have BK155:=n2_
      have BK156:=n3_
      have BK157:=n4_
      have HB:=n5_
      clear n0_ n1_ n2_ n3_ n4_ n5_
      (try clear hb)
      (try clear hb2)
      (try clear hk)
      (try clear hi)
      refine hK.out _ _ ⟨(kC BK155.out 0).trans rfl,(kC BK155.out 1).trans rfl,(kC BK156.out 0).trans rfl,(kC BK156.out 1).trans rfl,(kC BK156.out 2).trans rfl,(kC BK157.out 0).trans rfl,(kC BK157.out 1).trans rfl,(kC BK157.out 2).trans rfl,(kC BK157.out 3).trans rfl,(kC BK157.out 4).trans rfl,(kC BK157.out 5).trans rfl,(kC BK157.out 6).trans rfl,(kC BK157.out 7).trans rfl⟩ (fun hHeld => ?_)
      clear hK K
      refine norm_ (a':=?_) ?_ ?_
      rotate_left
      ·show Act.put _ (some 24) _ = _
       simp only [Act.put,sA,sZ,sS,i64_w,i32_w]
       rfl
      refine pure_ (i:=5) (N:=some 19) (v:=?_) (a':=?_) #[tt,tt,tt,tt,tt,tt,ff,ff,ff,ff] rfl rfl (any_of HT_.out (by kernel_rfl)) (fun _ _ _ h => h) (Or.inl ⟨by rfl,?_⟩) ?_ ?_
      rotate_left
      ·intro w'
       go_simp
       with_reducible rfl
      rotate_left
      ·simp only [Act.put,sA,sZ,sS,i64_w,i32_w]
       rfl
      refine pure_ (i:=6) (N:=some 25) (v:=?_) (a':=?_) #[tt,tt,tt,tt,tt,tt,tt,ff,ff,ff] rfl rfl (any_of HT_.out (by kernel_rfl)) (fun _ _ _ h => h) (Or.inl ⟨by rfl,?_⟩) ?_ ?_
      rotate_left
      ·intro w'
       go_simp
       with_reducible rfl
      rotate_left
      ·simp only [Act.put,sA,sZ,sS,i64_w,i32_w]
       rfl
      refine pure_ (i:=7) (N:=some 26) (v:=?_) (a':=?_) #[tt,tt,tt,tt,tt,tt,tt,tt,ff,ff] rfl rfl (any_of HT_.out (by kernel_rfl)) (fun _ _ _ h => h) (Or.inl ⟨by rfl,?_⟩) ?_ ?_
      rotate_left
      ·intro w'
       go_simp
       with_reducible rfl
      rotate_left
      ·simp only [Act.put,sA,sZ,sS,i64_w,i32_w]
       rfl
      refine pure_ (i:=8) (N:=some 8) (v:=?_) (a':=?_) #[tt,tt,tt,tt,tt,tt,tt,tt,tt,ff] rfl rfl (any_of HT_.out (by kernel_rfl)) (fun _ _ _ h => h) (Or.inl ⟨by rfl,?_⟩) ?_ ?_
      rotate_left
      ·intro w'
       go_simp
       with_reducible rfl
      rotate_left
      ·simp only [Act.put,sA,sZ,sS,i64_w,i32_w]
       rfl
      refine pure_ (i:=9) (N:=some 9) (v:=?_) (a':=?_) #[tt,tt,tt,tt,tt,tt,tt,tt,tt,tt] rfl rfl (any_of HT_.out (by kernel_rfl)) (fun _ _ _ h => h) (Or.inl ⟨by rfl,?_⟩) ?_ ?_
      rotate_left
      ·intro w'
       go_simp
       with_reducible rfl
      rotate_left
      ·simp only [Act.put,sA,sZ,sS,i64_w,i32_w]
       rfl
      refine done_ (done_of HT_.out (by kernel_rfl)) ?_
      have hcz103_0 : w102.cell? ⟨gb155,0,none⟩ = some (.int .u64 a0_0):=(kC BK155.out 0).trans rfl
      have hcz103_1 : w102.cell? ⟨gb155,1,none⟩ = some (.slice A0_1 l0_1.length c0_1):=(kC BK155.out 1).trans rfl
      have hfz103_0:=blk_frozen BK155.out 0
      have hfz103_1:=blk_frozen BK155.out 1
      try go_wp2_with (first|((with_reducible refine gate_callee (f:=13) rfl ?_);refine goesL_ (some 28) rfl rfl Try.func13 (by kernel_rfl) rfl #[.agg #[.int .u64 a0_0,.slice A0_1 l0_1.length c0_1]] rfl (by (try simp only [List.map_toArray,List.map_cons,List.map_nil]);first|done|rfl|(simp only [List.length_drop,List.length_take];rfl)) ?_;(with_reducible refine (gazetteerref17_Right.calls k a0_0 _ _ l0_1 false _ ?side1 ?side2 A18.out).mono ?_);(case side1 => repeat (first|exact (Kd.C_below HR0_1.out HB.out)|(with_reducible refine Kd.C_alloc ?_ _)|(with_reducible refine Kd.C_drewN ?_ _)|(with_reducible refine Kd.C_drew ?_)));(case side2 => exact HC0_1.out);rintro e w104 ⟨rfl,hb⟩;refine ⟨_,rfl,?_⟩;have n0_:=Ak (Kd.R_below (by (with_reducible repeat (first|apply Kd.R_alloc|apply Kd.R_drewN|apply Kd.R_drew));exact HO162.out) hb);have n1_:=Ak (Kd.R_below (by (with_reducible repeat (first|apply Kd.R_alloc|apply Kd.R_drewN|apply Kd.R_drew));exact HO167.out) hb);have n2_:=Ak (kB (g:=gb155) (o:=.cells #[.int .u64 a0_0,.slice A0_1 l0_1.length c0_1] 25 (0,0)) (by (with_reducible repeat (first|refine kN ?_ _|refine kD ?_|refine kA ?_ _));exact BK155.out) hb);have n3_:=Ak (kB (g:=gb156) (o:=.cells #[.int .u64 a1_0,.bool a1_1,.int .u64 a1_2] 27 (0,0)) (by (with_reducible repeat (first|refine kN ?_ _|refine kD ?_|refine kA ?_ _));exact BK156.out) hb);have n4_:=Ak (kB (g:=gb157) (o:=.cells #[.int .u32 a2_0,.int .u64 a2_1,.int .u64 a2_2,.int .i64 a2_3,.int .i64 a2_4,.int .i64 a2_5,.int .i64 a2_6,.int .i64 a2_7] 32 (0,0)) (by (with_reducible repeat (first|refine kN ?_ _|refine kD ?_|refine kA ?_ _));exact BK157.out) hb);have n5_:=Ak (below_step (by repeat (first|(with_reducible first|exact HB.out|apply bA|apply bN|apply bD|refine bS ?_ GE155.out|refine bS ?_ GE156.out|refine bS ?_ GE157.out)|exact HB.out)) hb);clear HO162;clear HO167;clear BK155;clear BK156;clear BK157;clear HB;have HO162:=n0_;have HO167:=n1_;have BK155:=n2_;have BK156:=n3_;have BK157:=n4_;have HB:=n5_;clear n0_ n1_ n2_ n3_ n4_ n5_;(try clear hb);(try clear hb2);(try clear hk);(try clear hi)))
      have n0_:=Ak (Kd.R_drew HO162.out)
      have n1_:=Ak (Kd.R_drew HO167.out)
      have n2_:=Ak (kD BK155.out)
      have n3_:=Ak (kD BK156.out)
      have n4_:=Ak (kD BK157.out)
      have n5_:=Ak (bD HB.out)
      clear HO162
      clear HO167
      clear BK155
      clear BK156
      clear BK157
      clear HB
      have HO162:=n0_
      have HO167:=n1_
      have BK155:=n2_
      have BK156:=n3_
      have BK157:=n4_
      have HB:=n5_
      clear n0_ n1_ n2_ n3_ n4_ n5_
      refine start_ (n:=20) (S:=fun w' => True) (ds:=[]) #[ff,ff,ff,ff,ff,ff,ff,ff,ff,ff,ff,ff,ff,ff,ff,ff,ff,ff,ff,ff] (by kernel_rfl) rfl rfl trivial (fun hHeld => ?_);refine with_tabW gazetteerlaw17_VisionCounts.tab8 gazetteerlaw17_VisionCounts.bits8 (fun HT_ HW_ => ?_)
      generalize w104.drew = w105 at HO162 HO167 BK155 BK156 BK157 HB hHeld ⊢
      refine pure_ (i:=0) (N:=some 30) (v:=?_) (a':=?_) #[tt,ff,ff,ff,ff,ff,ff,ff,ff,ff,ff,ff,ff,ff,ff,ff,ff,ff,ff,ff] rfl rfl (any_of HT_.out (by kernel_rfl)) (fun _ _ _ h => h) (Or.inl ⟨by rfl,?_⟩) ?_ ?_
      rotate_left
      ·intro w'
       go_simp
       with_reducible rfl
      rotate_left
      ·simp only [Act.put,sA,sZ,sS,i64_w,i32_w]
       rfl
      refine pure_ (i:=1) (N:=some 31) (v:=?_) (a':=?_) #[tt,tt,ff,ff,ff,ff,ff,ff,ff,ff,ff,ff,ff,ff,ff,ff,ff,ff,ff,ff] rfl rfl (any_of HT_.out (by kernel_rfl)) (fun _ _ _ h => h) (Or.inl ⟨by rfl,?_⟩) ?_ ?_
      rotate_left
      ·intro w'
       go_simp
       with_reducible rfl
      rotate_left
      ·simp only [Act.put,sA,sZ,sS,i64_w,i32_w]
       rfl
      refine pure_ (i:=2) (N:=some 32) (v:=?_) (a':=?_) #[tt,tt,tt,ff,ff,ff,ff,ff,ff,ff,ff,ff,ff,ff,ff,ff,ff,ff,ff,ff] rfl rfl (any_of HT_.out (by kernel_rfl)) (fun _ _ _ h => h) (Or.inl ⟨by rfl,?_⟩) ?_ ?_
      rotate_left
      ·intro w'
       go_simp
       with_reducible rfl
      rotate_left
      ·simp only [Act.put,sA,sZ,sS,i64_w,i32_w]
       rfl
      refine pure_ (i:=3) (N:=some 33) (v:=?_) (a':=?_) #[tt,tt,tt,tt,ff,ff,ff,ff,ff,ff,ff,ff,ff,ff,ff,ff,ff,ff,ff,ff] rfl rfl (any_of HT_.out (by kernel_rfl)) (fun _ _ _ h => h) (Or.inl ⟨by rfl,?_⟩) ?_ ?_
      rotate_left
      ·intro w'
       go_simp
       with_reducible rfl
      rotate_left
      ·simp only [Act.put,sA,sZ,sS,i64_w,i32_w]
       rfl
      refine pure_ (i:=4) (N:=some 34) (v:=?_) (a':=?_) #[tt,tt,tt,tt,tt,ff,ff,ff,ff,ff,ff,ff,ff,ff,ff,ff,ff,ff,ff,ff] rfl rfl (any_of HT_.out (by kernel_rfl)) (fun _ _ _ h => h) (Or.inl ⟨by rfl,?_⟩) ?_ ?_
      rotate_left
      ·intro w'
       go_simp
       with_reducible rfl
      rotate_left
      ·simp only [Act.put,sA,sZ,sS,i64_w,i32_w]
       rfl
      refine pure_ (i:=5) (N:=some 35) (v:=?_) (a':=?_) #[tt,tt,tt,tt,tt,tt,ff,ff,ff,ff,ff,ff,ff,ff,ff,ff,ff,ff,ff,ff] rfl rfl (any_of HT_.out (by kernel_rfl)) (fun _ _ _ h => h) (Or.inl ⟨by rfl,?_⟩) ?_ ?_
      rotate_left
      ·intro w'
       go_simp
       with_reducible rfl
      rotate_left
      ·simp only [Act.put,sA,sZ,sS,i64_w,i32_w]
       rfl
      refine pure_ (i:=6) (N:=some 36) (v:=?_) (a':=?_) #[tt,tt,tt,tt,tt,tt,tt,ff,ff,ff,ff,ff,ff,ff,ff,ff,ff,ff,ff,ff] rfl rfl (any_of HT_.out (by kernel_rfl)) (fun _ _ _ h => h) (Or.inl ⟨by rfl,?_⟩) ?_ ?_
      rotate_left
      ·intro w'
       go_simp
       with_reducible rfl
      rotate_left
      ·simp only [Act.put,sA,sZ,sS,i64_w,i32_w]
       rfl
      refine pure_ (i:=7) (N:=some 37) (v:=undef) (a':=?_) #[tt,tt,tt,tt,tt,tt,tt,tt,ff,ff,ff,ff,ff,ff,ff,ff,ff,ff,ff,ff] rfl rfl (any_of HT_.out (by kernel_rfl)) (fun _ _ _ h => h) (Or.inr ⟨by rfl,rfl⟩) ?_ ?_
      rotate_left
      ·simp only [Act.put,sA,sZ,sS,i64_w,i32_w]
       rfl
      refine pure_ (i:=8) (N:=some 38) (v:=undef) (a':=?_) #[tt,tt,tt,tt,tt,tt,tt,tt,tt,ff,ff,ff,ff,ff,ff,ff,ff,ff,ff,ff] rfl rfl (any_of HT_.out (by kernel_rfl)) (fun _ _ _ h => h) (Or.inr ⟨by rfl,rfl⟩) ?_ ?_
      rotate_left
      ·simp only [Act.put,sA,sZ,sS,i64_w,i32_w]
       rfl
      refine pure_ (i:=9) (N:=some 39) (v:=?_) (a':=?_) #[tt,tt,tt,tt,tt,tt,tt,tt,tt,tt,ff,ff,ff,ff,ff,ff,ff,ff,ff,ff] rfl rfl (any_of HT_.out (by kernel_rfl)) (fun _ _ _ h => h) (Or.inl ⟨by rfl,?_⟩) ?_ ?_
      rotate_left
      ·intro w'
       go_simp
       with_reducible rfl
      rotate_left
      ·simp only [Act.put,sA,sZ,sS,i64_w,i32_w]
       rfl
      refine pure_ (i:=10) (N:=some 40) (v:=?_) (a':=?_) #[tt,tt,tt,tt,tt,tt,tt,tt,tt,tt,tt,ff,ff,ff,ff,ff,ff,ff,ff,ff] rfl rfl (any_of HT_.out (by kernel_rfl)) (fun _ _ _ h => h) (Or.inl ⟨by rfl,?_⟩) ?_ ?_
      rotate_left
      ·intro w'
       go_simp
       with_reducible rfl
      rotate_left
      ·simp only [Act.put,sA,sZ,sS,i64_w,i32_w]
       rfl
      refine pure_ (i:=11) (N:=some 41) (v:=undef) (a':=?_) #[tt,tt,tt,tt,tt,tt,tt,tt,tt,tt,tt,tt,ff,ff,ff,ff,ff,ff,ff,ff] rfl rfl (any_of HT_.out (by kernel_rfl)) (fun _ _ _ h => h) (Or.inr ⟨by rfl,rfl⟩) ?_ ?_
      rotate_left
      ·simp only [Act.put,sA,sZ,sS,i64_w,i32_w]
       rfl
      refine pure_ (i:=12) (N:=some 42) (v:=undef) (a':=?_) #[tt,tt,tt,tt,tt,tt,tt,tt,tt,tt,tt,tt,tt,ff,ff,ff,ff,ff,ff,ff] rfl rfl (any_of HT_.out (by kernel_rfl)) (fun _ _ _ h => h) (Or.inr ⟨by rfl,rfl⟩) ?_ ?_
      rotate_left
      ·simp only [Act.put,sA,sZ,sS,i64_w,i32_w]
       rfl
      refine pure_ (i:=13) (N:=some 43) (v:=undef) (a':=?_) #[tt,tt,tt,tt,tt,tt,tt,tt,tt,tt,tt,tt,tt,tt,ff,ff,ff,ff,ff,ff] rfl rfl (any_of HT_.out (by kernel_rfl)) (fun _ _ _ h => h) (Or.inr ⟨by rfl,rfl⟩) ?_ ?_
      rotate_left
      ·simp only [Act.put,sA,sZ,sS,i64_w,i32_w]
       rfl
      refine pure_ (i:=14) (N:=some 44) (v:=undef) (a':=?_) #[tt,tt,tt,tt,tt,tt,tt,tt,tt,tt,tt,tt,tt,tt,tt,ff,ff,ff,ff,ff] rfl rfl (any_of HT_.out (by kernel_rfl)) (fun _ _ _ h => h) (Or.inr ⟨by rfl,rfl⟩) ?_ ?_
      rotate_left
      ·simp only [Act.put,sA,sZ,sS,i64_w,i32_w]
       rfl
      refine pure_ (i:=15) (N:=some 45) (v:=undef) (a':=?_) #[tt,tt,tt,tt,tt,tt,tt,tt,tt,tt,tt,tt,tt,tt,tt,tt,ff,ff,ff,ff] rfl rfl (any_of HT_.out (by kernel_rfl)) (fun _ _ _ h => h) (Or.inr ⟨by rfl,rfl⟩) ?_ ?_
      rotate_left
      ·simp only [Act.put,sA,sZ,sS,i64_w,i32_w]
       rfl
      refine pure_ (i:=16) (N:=some 46) (v:=undef) (a':=?_) #[tt,tt,tt,tt,tt,tt,tt,tt,tt,tt,tt,tt,tt,tt,tt,tt,tt,ff,ff,ff] rfl rfl (any_of HT_.out (by kernel_rfl)) (fun _ _ _ h => h) (Or.inr ⟨by rfl,rfl⟩) ?_ ?_
      rotate_left
      ·simp only [Act.put,sA,sZ,sS,i64_w,i32_w]
       rfl
      refine pure_ (i:=17) (N:=some 47) (v:=undef) (a':=?_) #[tt,tt,tt,tt,tt,tt,tt,tt,tt,tt,tt,tt,tt,tt,tt,tt,tt,tt,ff,ff] rfl rfl (any_of HT_.out (by kernel_rfl)) (fun _ _ _ h => h) (Or.inr ⟨by rfl,rfl⟩) ?_ ?_
      rotate_left
      ·simp only [Act.put,sA,sZ,sS,i64_w,i32_w]
       rfl
      refine pure_ (i:=18) (N:=some 48) (v:=?_) (a':=?_) #[tt,tt,tt,tt,tt,tt,tt,tt,tt,tt,tt,tt,tt,tt,tt,tt,tt,tt,tt,ff] rfl rfl (any_of HT_.out (by kernel_rfl)) (fun _ _ _ h => h) (Or.inl ⟨by rfl,?_⟩) ?_ ?_
      rotate_left
      ·intro w'
       go_simp
       with_reducible rfl
      rotate_left
      ·simp only [Act.put,sA,sZ,sS,i64_w,i32_w]
       rfl
      refine pure_ (i:=19) (N:=some 6) (v:=?_) (a':=?_) #[tt,tt,tt,tt,tt,tt,tt,tt,tt,tt,tt,tt,tt,tt,tt,tt,tt,tt,tt,tt] rfl rfl (any_of HT_.out (by kernel_rfl)) (fun _ _ _ h => h) (Or.inl ⟨by rfl,?_⟩) ?_ ?_
      rotate_left
      ·intro w'
       go_simp
       with_reducible rfl
      rotate_left
      ·simp only [Act.put,sA,sZ,sS,i64_w,i32_w]
       rfl
      refine done_ (done_of HT_.out (by kernel_rfl)) ?_
      try go_wp2
      go_ret
      exact ⟨by first|rfl|(simp [errW_none,errW_some] <;> rfl)|(simp [*,errW_none,errW_some] <;> rfl),by repeat (first|(with_reducible first|exact HB.out|apply bA|apply bN|apply bD|refine bS ?_ GE155.out|refine bS ?_ GE156.out|refine bS ?_ GE157.out)|exact HB.out)⟩
     ·replace c88:=Bool.eq_false_iff.mpr c88
      subst c88
      have H1 : (if t169 = 270 then ((gazetteerlaw17_copied.f a0_0 l0_1).bind fun bt171 => ((vision_Counts.f bt171.1 bt171.2 a1_0 a1_1 a1_2 a2_1).bind fun t175 => (some (!t175)))) else (some false)) = some r:=by rw [if_neg (show ¬ (false = true) by decide)] at H;exact H
      clear H
      have H:=H1
      clear H1
      by_cases c106 : t169 = 270
      ·rw [if_pos c106] at H
       have c106b0 : (t169 == 270) = true:=beq_iff_eq.mpr c106
       have c106b1 : (t169 != 270) = false:=bne_eq_false_iff_eq.mpr c106
       clear c106
       replace H:=Option.bind_eq_some_iff.mp H
       obtain ⟨⟨t171,t172⟩,A1070,H⟩:=H
       replace H : ((vision_Counts.f t171 t172 a1_0 a1_1 a1_2 a2_1).bind fun t175 => (some (!t175))) = some r:=H
       have A107:=Ak A1070
       clear A1070
       replace H:=Option.bind_eq_some_iff.mp H
       obtain ⟨t175,A1080,H⟩:=H
       replace H : (some (!t175)) = some r:=H
       have A108:=Ak A1080
       clear A1080
       obtain rfl:=Option.some.inj H
       go_enter Try.func3,Try.ntmps3
       try go_wp2_with (first|((with_reducible refine gate_dst (N:=3) rfl ?_);refine box_event ?hg (N:=3) ?hd (cs:=#[.int .u64 a0_0,.slice A0_1 l0_1.length c0_1]) (t:=25) ?hr ?_;(case hd => rfl);(case hg => rfl);(case hr => first|(go_simp;done)|(go_simp;rfl));intro gb155 hg w109 hbox hb;have n0_:=Ak (below_step (by repeat (first|(with_reducible first|exact HB.out|apply bA|apply bN|apply bD)|exact HB.out)) hb);have n1_:=Ak (hbox);have n2_:=Ak ((by rw [hg];exact (below_size (by repeat (first|(with_reducible first|exact HB.out|apply bA|apply bN|apply bD)|exact HB.out))) : w.heap.size ≤ gb155));have n3_:=Ak ((by rw [hg];exact (below_size (by repeat (first|(with_reducible first|exact HB.out|apply bA|apply bN|apply bD)|exact HB.out))) : w.heap.size ≤ gb155));clear HB;have HB:=n0_;have BK155:=n1_;have GW155:=n2_;have GE155:=n3_;clear n0_ n1_ n2_ n3_;clear hb hbox hg)|((with_reducible refine gate_dst (N:=4) rfl ?_);refine box_event ?hg (N:=4) ?hd (cs:=#[.int .u64 a1_0,.bool a1_1,.int .u64 a1_2]) (t:=27) ?hr ?_;(case hd => rfl);(case hg => rfl);(case hr => first|(go_simp;done)|(go_simp;rfl));intro gb156 hg w110 hbox hb;have n0_:=Ak (kB (g:=gb155) (o:=.cells #[.int .u64 a0_0,.slice A0_1 l0_1.length c0_1] 25 (0,0)) (by (with_reducible repeat (first|refine kN ?_ _|refine kD ?_|refine kA ?_ _));exact BK155.out) hb);have n1_:=Ak (below_step (by repeat (first|(with_reducible first|exact HB.out|apply bA|apply bN|apply bD|refine bS ?_ GE155.out)|exact HB.out)) hb);have n2_:=Ak (hbox);have n3_:=Ak ((by rw [hg];exact (below_size (by repeat (first|(with_reducible first|exact HB.out|apply bA|apply bN|apply bD|refine bS ?_ GE155.out)|exact HB.out))) : w.heap.size ≤ gb156));have n4_:=Ak ((by rw [hg];exact (below_size (by repeat (first|(with_reducible first|exact HB.out|apply bA|apply bN|apply bD|refine bS ?_ GE155.out)|exact HB.out))) : w.heap.size ≤ gb156));have n5_:=Ak ((by rw [hg];exact Nat.ne_of_lt (blk_lt (g:=gb155) (o:=.cells #[.int .u64 a0_0,.slice A0_1 l0_1.length c0_1] 25 (0,0)) (by (with_reducible repeat (first|refine kN ?_ _|refine kD ?_|refine kA ?_ _));exact BK155.out)) : gb155 ≠ gb156));have n6_:=Ak ((by rw [hg];exact Nat.ne_of_gt (blk_lt (g:=gb155) (o:=.cells #[.int .u64 a0_0,.slice A0_1 l0_1.length c0_1] 25 (0,0)) (by (with_reducible repeat (first|refine kN ?_ _|refine kD ?_|refine kA ?_ _));exact BK155.out)) : gb156 ≠ gb155));clear BK155;clear HB;have BK155:=n0_;have HB:=n1_;have BK156:=n2_;have GW156:=n3_;have GE156:=n4_;have NB155_156:=n5_;have NB156_155:=n6_;clear n0_ n1_ n2_ n3_ n4_ n5_ n6_;clear hb hbox hg)|((with_reducible refine gate_dst (N:=5) rfl ?_);refine box_event ?hg (N:=5) ?hd (cs:=#[.int .u32 a2_0,.int .u64 a2_1,.int .u64 a2_2,.int .i64 a2_3,.int .i64 a2_4,.int .i64 a2_5,.int .i64 a2_6,.int .i64 a2_7]) (t:=32) ?hr ?_;(case hd => rfl);(case hg => rfl);(case hr => first|(go_simp;done)|(go_simp;rfl));intro gb157 hg w111 hbox hb;have n0_:=Ak (kB (g:=gb155) (o:=.cells #[.int .u64 a0_0,.slice A0_1 l0_1.length c0_1] 25 (0,0)) (by (with_reducible repeat (first|refine kN ?_ _|refine kD ?_|refine kA ?_ _));exact BK155.out) hb);have n1_:=Ak (kB (g:=gb156) (o:=.cells #[.int .u64 a1_0,.bool a1_1,.int .u64 a1_2] 27 (0,0)) (by (with_reducible repeat (first|refine kN ?_ _|refine kD ?_|refine kA ?_ _));exact BK156.out) hb);have n2_:=Ak (below_step (by repeat (first|(with_reducible first|exact HB.out|apply bA|apply bN|apply bD|refine bS ?_ GE155.out|refine bS ?_ GE156.out)|exact HB.out)) hb);have n3_:=Ak (hbox);have n4_:=Ak ((by rw [hg];exact (below_size (by repeat (first|(with_reducible first|exact HB.out|apply bA|apply bN|apply bD|refine bS ?_ GE155.out|refine bS ?_ GE156.out)|exact HB.out))) : w.heap.size ≤ gb157));have n5_:=Ak ((by rw [hg];exact (below_size (by repeat (first|(with_reducible first|exact HB.out|apply bA|apply bN|apply bD|refine bS ?_ GE155.out|refine bS ?_ GE156.out)|exact HB.out))) : w.heap.size ≤ gb157));have n6_:=Ak ((by rw [hg];exact Nat.ne_of_lt (blk_lt (g:=gb155) (o:=.cells #[.int .u64 a0_0,.slice A0_1 l0_1.length c0_1] 25 (0,0)) (by (with_reducible repeat (first|refine kN ?_ _|refine kD ?_|refine kA ?_ _));exact BK155.out)) : gb155 ≠ gb157));have n7_:=Ak ((by rw [hg];exact Nat.ne_of_gt (blk_lt (g:=gb155) (o:=.cells #[.int .u64 a0_0,.slice A0_1 l0_1.length c0_1] 25 (0,0)) (by (with_reducible repeat (first|refine kN ?_ _|refine kD ?_|refine kA ?_ _));exact BK155.out)) : gb157 ≠ gb155));have n8_:=Ak ((by rw [hg];exact Nat.ne_of_lt (blk_lt (g:=gb156) (o:=.cells #[.int .u64 a1_0,.bool a1_1,.int .u64 a1_2] 27 (0,0)) (by (with_reducible repeat (first|refine kN ?_ _|refine kD ?_|refine kA ?_ _));exact BK156.out)) : gb156 ≠ gb157));have n9_:=Ak ((by rw [hg];exact Nat.ne_of_gt (blk_lt (g:=gb156) (o:=.cells #[.int .u64 a1_0,.bool a1_1,.int .u64 a1_2] 27 (0,0)) (by (with_reducible repeat (first|refine kN ?_ _|refine kD ?_|refine kA ?_ _));exact BK156.out)) : gb157 ≠ gb156));clear BK155;clear BK156;clear HB;have BK155:=n0_;have BK156:=n1_;have HB:=n2_;have BK157:=n3_;have GW157:=n4_;have GE157:=n5_;have NB155_157:=n6_;have NB157_155:=n7_;have NB156_157:=n8_;have NB157_156:=n9_;clear n0_ n1_ n2_ n3_ n4_ n5_ n6_ n7_ n8_ n9_;clear hb hbox hg)|((with_reducible refine gate_callee (f:=9) rfl ?_);refine goesL_ (some 10) rfl rfl Try.func9 (by kernel_rfl) rfl #[] rfl (by (try simp only [List.map_toArray,List.map_cons,List.map_nil]);first|done|rfl|(simp only [List.length_drop,List.length_take];rfl)) ?_;(with_reducible refine (gazetteerlaw17_wakes.calls  true _ A4.out).mono ?_);rintro e w112 ⟨rfl,hb⟩;refine ⟨_,rfl,?_⟩;have n0_:=Ak (kB (g:=gb155) (o:=.cells #[.int .u64 a0_0,.slice A0_1 l0_1.length c0_1] 25 (0,0)) (by (with_reducible repeat (first|refine kN ?_ _|refine kD ?_|refine kA ?_ _));exact BK155.out) hb);have n1_:=Ak (kB (g:=gb156) (o:=.cells #[.int .u64 a1_0,.bool a1_1,.int .u64 a1_2] 27 (0,0)) (by (with_reducible repeat (first|refine kN ?_ _|refine kD ?_|refine kA ?_ _));exact BK156.out) hb);have n2_:=Ak (kB (g:=gb157) (o:=.cells #[.int .u32 a2_0,.int .u64 a2_1,.int .u64 a2_2,.int .i64 a2_3,.int .i64 a2_4,.int .i64 a2_5,.int .i64 a2_6,.int .i64 a2_7] 32 (0,0)) (by (with_reducible repeat (first|refine kN ?_ _|refine kD ?_|refine kA ?_ _));exact BK157.out) hb);have n3_:=Ak (below_step (by repeat (first|(with_reducible first|exact HB.out|apply bA|apply bN|apply bD|refine bS ?_ GE155.out|refine bS ?_ GE156.out|refine bS ?_ GE157.out)|exact HB.out)) hb);clear BK155;clear BK156;clear BK157;clear HB;have BK155:=n0_;have BK156:=n1_;have BK157:=n2_;have HB:=n3_;clear n0_ n1_ n2_ n3_;(try clear hb);(try clear hb2);(try clear hk);(try clear hi);have hnb113:=NB155_156.out;have hnc113:=NB156_155.out;have hnb114:=NB155_157.out;have hnc114:=NB157_155.out;have hcz115_0 : w112.cell? ⟨gb155,0,none⟩ = some (.int .u64 a0_0):=(kC BK155.out 0).trans rfl;have hcz115_1 : w112.cell? ⟨gb155,1,none⟩ = some (.slice A0_1 l0_1.length c0_1):=(kC BK155.out 1).trans rfl;have hfz115_0:=blk_frozen BK155.out 0;have hfz115_1:=blk_frozen BK155.out 1)|((with_reducible refine gate_callee (f:=11) rfl ?_);refine goesL_ (some 17) rfl rfl Try.func11 (by kernel_rfl) rfl #[.agg #[.int .u64 a0_0,.slice A0_1 l0_1.length c0_1]] rfl (by (try simp only [List.map_toArray,List.map_cons,List.map_nil]);first|done|rfl|(simp only [List.length_drop,List.length_take];rfl)) ?_;(with_reducible refine (gazetteerlaw17_copied.calls a0_0 _ _ l0_1 t159 t160 _ ?side1 ?side2 A14.out).mono ?_);(case side1 => repeat (first|exact (Kd.C_below HR0_1.out HB.out)|(with_reducible refine Kd.C_alloc ?_ _)|(with_reducible refine Kd.C_drewN ?_ _)|(with_reducible refine Kd.C_drew ?_)));(case side2 => exact HC0_1.out);rintro e w116 ⟨v161,rfl,ho0,hb⟩;refine ⟨_,rfl,?_⟩;have n0_:=Ak (Kd.R_lower ho0 (below_size (by repeat (first|(with_reducible first|exact HB.out|apply bA|apply bN|apply bD|refine bS ?_ GE155.out|refine bS ?_ GE156.out|refine bS ?_ GE157.out)|exact HB.out))));have n1_:=Ak (kB (g:=gb155) (o:=.cells #[.int .u64 a0_0,.slice A0_1 l0_1.length c0_1] 25 (0,0)) (by (with_reducible repeat (first|refine kN ?_ _|refine kD ?_|refine kA ?_ _));exact BK155.out) hb);have n2_:=Ak (kB (g:=gb156) (o:=.cells #[.int .u64 a1_0,.bool a1_1,.int .u64 a1_2] 27 (0,0)) (by (with_reducible repeat (first|refine kN ?_ _|refine kD ?_|refine kA ?_ _));exact BK156.out) hb);have n3_:=Ak (kB (g:=gb157) (o:=.cells #[.int .u32 a2_0,.int .u64 a2_1,.int .u64 a2_2,.int .i64 a2_3,.int .i64 a2_4,.int .i64 a2_5,.int .i64 a2_6,.int .i64 a2_7] 32 (0,0)) (by (with_reducible repeat (first|refine kN ?_ _|refine kD ?_|refine kA ?_ _));exact BK157.out) hb);have n4_:=Ak (below_step (by repeat (first|(with_reducible first|exact HB.out|apply bA|apply bN|apply bD|refine bS ?_ GE155.out|refine bS ?_ GE156.out|refine bS ?_ GE157.out)|exact HB.out)) hb);clear BK155;clear BK156;clear BK157;clear HB;have HO162:=n0_;have BK155:=n1_;have BK156:=n2_;have BK157:=n3_;have HB:=n4_;clear n0_ n1_ n2_ n3_ n4_;(try clear hb);(try clear hb2);(try clear hk);(try clear hi);(try clear ho0);obtain ⟨Ao117,co117,eo117⟩:=Kd.R_slice HO162.out;subst eo117)|((with_reducible refine gate_callee (f:=10) rfl ?_);refine goesL_ (some 18) rfl rfl Try.func10 (by kernel_rfl) rfl #[.agg #[.int .u64 t159,.slice Ao117 t160.length co117]] rfl (by (try simp only [List.map_toArray,List.map_cons,List.map_nil]);first|done|rfl|(simp only [List.length_drop,List.length_take];rfl)) ?_;(with_reducible refine (vision_Check.calls t159 _ _ t160 t163 _ ?side1 ?side2 A15.out).mono ?_);(case side1 => repeat (first|exact (Kd.R_reads' HO162.out).2.2|(with_reducible refine Kd.C_alloc ?_ _)|(with_reducible refine Kd.C_drewN ?_ _)|(with_reducible refine Kd.C_drew ?_)));(case side2 => exact (Kd.R_reads' HO162.out).2.1);rintro e w118 ⟨rfl,hb⟩;refine ⟨_,rfl,?_⟩;have n0_:=Ak (Kd.R_below (by (with_reducible repeat (first|apply Kd.R_alloc|apply Kd.R_drewN|apply Kd.R_drew));exact HO162.out) hb);have n1_:=Ak (kB (g:=gb155) (o:=.cells #[.int .u64 a0_0,.slice A0_1 l0_1.length c0_1] 25 (0,0)) (by (with_reducible repeat (first|refine kN ?_ _|refine kD ?_|refine kA ?_ _));exact BK155.out) hb);have n2_:=Ak (kB (g:=gb156) (o:=.cells #[.int .u64 a1_0,.bool a1_1,.int .u64 a1_2] 27 (0,0)) (by (with_reducible repeat (first|refine kN ?_ _|refine kD ?_|refine kA ?_ _));exact BK156.out) hb);have n3_:=Ak (kB (g:=gb157) (o:=.cells #[.int .u32 a2_0,.int .u64 a2_1,.int .u64 a2_2,.int .i64 a2_3,.int .i64 a2_4,.int .i64 a2_5,.int .i64 a2_6,.int .i64 a2_7] 32 (0,0)) (by (with_reducible repeat (first|refine kN ?_ _|refine kD ?_|refine kA ?_ _));exact BK157.out) hb);have n4_:=Ak (below_step (by repeat (first|(with_reducible first|exact HB.out|apply bA|apply bN|apply bD|refine bS ?_ GE155.out|refine bS ?_ GE156.out|refine bS ?_ GE157.out)|exact HB.out)) hb);clear HO162;clear BK155;clear BK156;clear BK157;clear HB;have HO162:=n0_;have BK155:=n1_;have BK156:=n2_;have BK157:=n3_;have HB:=n4_;clear n0_ n1_ n2_ n3_ n4_;(try clear hb);(try clear hb2);(try clear hk);(try clear hi)))
       have n0_:=Ak (Kd.R_drew HO162.out)
       have n1_:=Ak (kD BK155.out)
       have n2_:=Ak (kD BK156.out)
       have n3_:=Ak (kD BK157.out)
       have n4_:=Ak (bD HB.out)
       clear HO162
       clear BK155
       clear BK156
       clear BK157
       clear HB
       have HO162:=n0_
       have BK155:=n1_
       have BK156:=n2_
       have BK157:=n3_
       have HB:=n4_
       clear n0_ n1_ n2_ n3_ n4_
       refine start_ (n:=10) (S:=fun w' => w'.cell? ⟨gb155,0,none⟩ = some (.int .u64 a0_0)∧w'.cell? ⟨gb155,1,none⟩ = some (.slice A0_1 l0_1.length c0_1)∧w'.cell? ⟨gb156,0,none⟩ = some (.int .u64 a1_0)∧w'.cell? ⟨gb156,1,none⟩ = some (.bool a1_1)∧w'.cell? ⟨gb156,2,none⟩ = some (.int .u64 a1_2)∧w'.cell? ⟨gb157,0,none⟩ = some (.int .u32 a2_0)∧w'.cell? ⟨gb157,1,none⟩ = some (.int .u64 a2_1)∧w'.cell? ⟨gb157,2,none⟩ = some (.int .u64 a2_2)∧w'.cell? ⟨gb157,3,none⟩ = some (.int .i64 a2_3)∧w'.cell? ⟨gb157,4,none⟩ = some (.int .i64 a2_4)∧w'.cell? ⟨gb157,5,none⟩ = some (.int .i64 a2_5)∧w'.cell? ⟨gb157,6,none⟩ = some (.int .i64 a2_6)∧w'.cell? ⟨gb157,7,none⟩ = some (.int .i64 a2_7)) (ds:=[]) #[ff,ff,ff,ff,ff,ff,ff,ff,ff,ff] (by kernel_rfl) rfl rfl ⟨(kC BK155.out 0).trans rfl,(kC BK155.out 1).trans rfl,(kC BK156.out 0).trans rfl,(kC BK156.out 1).trans rfl,(kC BK156.out 2).trans rfl,(kC BK157.out 0).trans rfl,(kC BK157.out 1).trans rfl,(kC BK157.out 2).trans rfl,(kC BK157.out 3).trans rfl,(kC BK157.out 4).trans rfl,(kC BK157.out 5).trans rfl,(kC BK157.out 6).trans rfl,(kC BK157.out 7).trans rfl⟩ (fun hHeld => ?_);refine with_tabW gazetteerlaw17_VisionCounts.tab6 gazetteerlaw17_VisionCounts.bits6 (fun HT_ HW_ => ?_)
       generalize w118.drew = w119 at HO162 BK155 BK156 BK157 HB hHeld ⊢
       refine take_ (i:=0) (N:=some 20) (v:=?_) (a':=?_) #[tt,ff,ff,ff,ff,ff,ff,ff,ff,ff] rfl rfl (take_ofW HT_.out HW_.out (by kernel_rfl)) (fun _ _ _ h => h) (Or.inl ⟨by rfl,?_⟩) hHeld ?_ ?_
       rotate_left
       ·rintro w' ⟨s0,s1,s2,s3,s4,s5,s6,s7,s8,s9,s10,s11,s12⟩
        go_simp
        with_reducible rfl
       rotate_left
       ·simp only [Act.put,sA,sZ,sS,i64_w,i32_w]
        rfl
       refine take_ (i:=2) (N:=some 22) (v:=?_) (a':=?_) #[tt,ff,tt,ff,ff,ff,ff,ff,ff,ff] rfl rfl (take_ofW HT_.out HW_.out (by kernel_rfl)) (fun _ _ _ h => h) (Or.inl ⟨by rfl,?_⟩) hHeld ?_ ?_
       rotate_left
       ·rintro w' ⟨s0,s1,s2,s3,s4,s5,s6,s7,s8,s9,s10,s11,s12⟩
        go_simp
        with_reducible rfl
       rotate_left
       ·simp only [Act.put,sA,sZ,sS,i64_w,i32_w]
        rfl
       refine take_ (i:=3) (N:=some 23) (v:=?_) (a':=?_) #[tt,ff,tt,tt,ff,ff,ff,ff,ff,ff] rfl rfl (take_ofW HT_.out HW_.out (by kernel_rfl)) (fun _ _ _ h => h) (Or.inl ⟨by rfl,?_⟩) hHeld ?_ ?_
       rotate_left
       ·rintro w' ⟨s0,s1,s2,s3,s4,s5,s6,s7,s8,s9,s10,s11,s12⟩
        go_simp
        with_reducible rfl
       rotate_left
       ·simp only [Act.put,sA,sZ,sS,i64_w,i32_w]
        rfl
       refine one_ (i:=1) (N:=some 21) #[tt,tt,tt,tt,ff,ff,ff,ff,ff,ff] rfl rfl (one_of HT_.out (by kernel_rfl)) (by decide) (fun K hK => ?_)
       refine goes_ Try.func11 (by kernel_rfl) rfl #[.agg #[.int .u64 a0_0,.slice A0_1 l0_1.length c0_1]] (by rfl) rfl rfl (by (try simp only [List.map_toArray,List.map_cons,List.map_nil]);first|done|rfl|(simp only [List.length_drop,List.length_take];rfl)) ?_
       with_reducible refine (gazetteerlaw17_copied.calls a0_0 _ _ l0_1 t164 t165 _ ?side1 ?side2 A16.out).mono ?_
       (case side1 => repeat (first|exact (Kd.C_below HR0_1.out HB.out)|(with_reducible refine Kd.C_alloc ?_ _)|(with_reducible refine Kd.C_drewN ?_ _)|(with_reducible refine Kd.C_drew ?_)))
       (case side2 => exact HC0_1.out)
       rintro e w120 ⟨v166,rfl,ho0,hb⟩
       refine ⟨_,rfl,?_⟩
       have n0_:=Ak (Kd.R_elder' (by (with_reducible repeat (first|apply Kd.R_alloc|apply Kd.R_drewN|apply Kd.R_drew));exact HO162.out) (Kd.R_base ho0) hb)
       have n1_:=Ak (Kd.R_lower (Kd.R_new' ho0 (Kd.R_lt (by (with_reducible repeat (first|apply Kd.R_alloc|apply Kd.R_drewN|apply Kd.R_drew));exact HO162.out))) (below_size (by repeat (first|(with_reducible first|exact HB.out|apply bA|apply bN|apply bD|refine bS ?_ GE155.out|refine bS ?_ GE156.out|refine bS ?_ GE157.out)|exact HB.out))))
       have n2_:=Ak (kB (g:=gb155) (o:=.cells #[.int .u64 a0_0,.slice A0_1 l0_1.length c0_1] 25 (0,0)) (by (with_reducible repeat (first|refine kN ?_ _|refine kD ?_|refine kA ?_ _));exact BK155.out) hb)
       have n3_:=Ak (kB (g:=gb156) (o:=.cells #[.int .u64 a1_0,.bool a1_1,.int .u64 a1_2] 27 (0,0)) (by (with_reducible repeat (first|refine kN ?_ _|refine kD ?_|refine kA ?_ _));exact BK156.out) hb)
       have n4_:=Ak (kB (g:=gb157) (o:=.cells #[.int .u32 a2_0,.int .u64 a2_1,.int .u64 a2_2,.int .i64 a2_3,.int .i64 a2_4,.int .i64 a2_5,.int .i64 a2_6,.int .i64 a2_7] 32 (0,0)) (by (with_reducible repeat (first|refine kN ?_ _|refine kD ?_|refine kA ?_ _));exact BK157.out) hb)
       have n5_:=Ak (below_step (by repeat (first|(with_reducible first|exact HB.out|apply bA|apply bN|apply bD|refine bS ?_ GE155.out|refine bS ?_ GE156.out|refine bS ?_ GE157.out)|exact HB.out)) hb)
       clear HO162
       clear BK155
       clear BK156
       clear BK157
       clear HB
       have HO162:=n0_
       have HO167:=n1_
       have BK155:=n2_
       have BK156:=n3_
       have BK157:=n4_
       have HB:=n5_
       clear n0_ n1_ n2_ n3_ n4_ n5_
       (try clear hb)
       (try clear hb2)
       (try clear hk)
       (try clear hi)
       (try clear ho0)
       obtain ⟨Ao121,co121,eo121⟩:=Kd.R_slice HO167.out
       (first|subst eo121|(injection eo121 with f1_ f2_ f3_;have f4_:=f1_.symm;have f5_:=f3_.symm;clear f1_ f2_ f3_;subst f4_;subst f5_))
       refine hK.out _ _ ⟨(kC BK155.out 0).trans rfl,(kC BK155.out 1).trans rfl,(kC BK156.out 0).trans rfl,(kC BK156.out 1).trans rfl,(kC BK156.out 2).trans rfl,(kC BK157.out 0).trans rfl,(kC BK157.out 1).trans rfl,(kC BK157.out 2).trans rfl,(kC BK157.out 3).trans rfl,(kC BK157.out 4).trans rfl,(kC BK157.out 5).trans rfl,(kC BK157.out 6).trans rfl,(kC BK157.out 7).trans rfl⟩ (fun hHeld => ?_)
       clear hK K
       refine norm_ (a':=?_) ?_ ?_
       rotate_left
       ·show Act.put _ (some 21) _ = _
        simp only [Act.put,sA,sZ,sS,i64_w,i32_w]
        rfl
       refine one_ (i:=4) (N:=some 24) #[tt,tt,tt,tt,tt,ff,ff,ff,ff,ff] rfl rfl (one_of HT_.out (by kernel_rfl)) (by decide) (fun K hK => ?_)
       refine goes_ Try.func12 (by kernel_rfl) rfl #[.agg #[.int .u64 t164,.slice Ao121 t165.length co121],.agg #[.int .u64 a1_0,.bool a1_1,.int .u64 a1_2],.agg #[.int .u32 a2_0,.int .u64 a2_1,.int .u64 a2_2,.int .i64 a2_3,.int .i64 a2_4,.int .i64 a2_5,.int .i64 a2_6,.int .i64 a2_7]] (by rfl) rfl rfl (by (try simp only [List.map_toArray,List.map_cons,List.map_nil]);first|done|rfl|(simp only [List.length_drop,List.length_take];rfl)) ?_
       with_reducible refine (vision_Sees.calls t164 _ _ t165 a1_0 a1_1 a1_2 a2_0 a2_1 a2_2 a2_3 a2_4 a2_5 a2_6 a2_7 false t169 _ ?side1 ?side2 A17.out).mono ?_
       (case side1 => repeat (first|exact (Kd.R_reads' HO167.out).2.2|(with_reducible refine Kd.C_alloc ?_ _)|(with_reducible refine Kd.C_drewN ?_ _)|(with_reducible refine Kd.C_drew ?_)))
       (case side2 => exact (Kd.R_reads' HO167.out).2.1)
       rintro e w122 ⟨rfl,hb⟩
       refine ⟨_,rfl,?_⟩
       have n0_:=Ak (Kd.R_below (by (with_reducible repeat (first|apply Kd.R_alloc|apply Kd.R_drewN|apply Kd.R_drew));exact HO162.out) hb)
       have n1_:=Ak (Kd.R_below (by (with_reducible repeat (first|apply Kd.R_alloc|apply Kd.R_drewN|apply Kd.R_drew));exact HO167.out) hb)
       have n2_:=Ak (kB (g:=gb155) (o:=.cells #[.int .u64 a0_0,.slice A0_1 l0_1.length c0_1] 25 (0,0)) (by (with_reducible repeat (first|refine kN ?_ _|refine kD ?_|refine kA ?_ _));exact BK155.out) hb)
       have n3_:=Ak (kB (g:=gb156) (o:=.cells #[.int .u64 a1_0,.bool a1_1,.int .u64 a1_2] 27 (0,0)) (by (with_reducible repeat (first|refine kN ?_ _|refine kD ?_|refine kA ?_ _));exact BK156.out) hb)
       have n4_:=Ak (kB (g:=gb157) (o:=.cells #[.int .u32 a2_0,.int .u64 a2_1,.int .u64 a2_2,.int .i64 a2_3,.int .i64 a2_4,.int .i64 a2_5,.int .i64 a2_6,.int .i64 a2_7] 32 (0,0)) (by (with_reducible repeat (first|refine kN ?_ _|refine kD ?_|refine kA ?_ _));exact BK157.out) hb)
       have n5_:=Ak (below_step (by repeat (first|(with_reducible first|exact HB.out|apply bA|apply bN|apply bD|refine bS ?_ GE155.out|refine bS ?_ GE156.out|refine bS ?_ GE157.out)|exact HB.out)) hb)
       clear HO162
       clear HO167
       clear BK155
       clear BK156
       clear BK157
       clear HB
       have HO162:=n0_
       have HO167:=n1_
       have BK155:=n2_
       have BK156:=n3_
       have BK157:=n4_
       have HB:=n5_
       clear n0_ n1_ n2_ n3_ n4_ n5_
       (try clear hb)
       (try clear hb2)
       (try clear hk)
       (try clear hi)
       refine hK.out _ _ ⟨(kC BK155.out 0).trans rfl,(kC BK155.out 1).trans rfl,(kC BK156.out 0).trans rfl,(kC BK156.out 1).trans rfl,(kC BK156.out 2).trans rfl,(kC BK157.out 0).trans rfl,(kC BK157.out 1).trans rfl,(kC BK157.out 2).trans rfl,(kC BK157.out 3).trans rfl,(kC BK157.out 4).trans rfl,(kC BK157.out 5).trans rfl,(kC BK157.out 6).trans rfl,(kC BK157.out 7).trans rfl⟩ (fun hHeld => ?_)
       clear hK K
       refine norm_ (a':=?_) ?_ ?_
       rotate_left
       ·show Act.put _ (some 24) _ = _
        simp only [Act.put,sA,sZ,sS,i64_w,i32_w]
        rfl
       refine pure_ (i:=5) (N:=some 19) (v:=?_) (a':=?_) #[tt,tt,tt,tt,tt,tt,ff,ff,ff,ff] rfl rfl (any_of HT_.out (by kernel_rfl)) (fun _ _ _ h => h) (Or.inl ⟨by rfl,?_⟩) ?_ ?_
       rotate_left
       ·intro w'
        go_simp
        with_reducible rfl
       rotate_left
       ·simp only [Act.put,sA,sZ,sS,i64_w,i32_w]
        rfl
       refine pure_ (i:=6) (N:=some 25) (v:=?_) (a':=?_) #[tt,tt,tt,tt,tt,tt,tt,ff,ff,ff] rfl rfl (any_of HT_.out (by kernel_rfl)) (fun _ _ _ h => h) (Or.inl ⟨by rfl,?_⟩) ?_ ?_
       rotate_left
       ·intro w'
        go_simp
        with_reducible rfl
       rotate_left
       ·simp only [Act.put,sA,sZ,sS,i64_w,i32_w]
        rfl
       refine pure_ (i:=7) (N:=some 26) (v:=?_) (a':=?_) #[tt,tt,tt,tt,tt,tt,tt,tt,ff,ff] rfl rfl (any_of HT_.out (by kernel_rfl)) (fun _ _ _ h => h) (Or.inl ⟨by rfl,?_⟩) ?_ ?_
       rotate_left
       ·intro w'
        go_simp
        with_reducible rfl
       rotate_left
       ·simp only [Act.put,sA,sZ,sS,i64_w,i32_w]
        rfl
       refine pure_ (i:=8) (N:=some 8) (v:=?_) (a':=?_) #[tt,tt,tt,tt,tt,tt,tt,tt,tt,ff] rfl rfl (any_of HT_.out (by kernel_rfl)) (fun _ _ _ h => h) (Or.inl ⟨by rfl,?_⟩) ?_ ?_
       rotate_left
       ·intro w'
        go_simp
        with_reducible rfl
       rotate_left
       ·simp only [Act.put,sA,sZ,sS,i64_w,i32_w]
        rfl
       refine pure_ (i:=9) (N:=some 9) (v:=?_) (a':=?_) #[tt,tt,tt,tt,tt,tt,tt,tt,tt,tt] rfl rfl (any_of HT_.out (by kernel_rfl)) (fun _ _ _ h => h) (Or.inl ⟨by rfl,?_⟩) ?_ ?_
       rotate_left
       ·intro w'
        go_simp
        with_reducible rfl
       rotate_left
       ·simp only [Act.put,sA,sZ,sS,i64_w,i32_w]
        rfl
       refine done_ (done_of HT_.out (by kernel_rfl)) ?_
       have hcz123_0 : w122.cell? ⟨gb155,0,none⟩ = some (.int .u64 a0_0):=(kC BK155.out 0).trans rfl
       have hcz123_1 : w122.cell? ⟨gb155,1,none⟩ = some (.slice A0_1 l0_1.length c0_1):=(kC BK155.out 1).trans rfl
       have hfz123_0:=blk_frozen BK155.out 0
       have hfz123_1:=blk_frozen BK155.out 1
       try go_wp2_with (first|((with_reducible refine gate_callee (f:=13) rfl ?_);refine goesL_ (some 28) rfl rfl Try.func13 (by kernel_rfl) rfl #[.agg #[.int .u64 a0_0,.slice A0_1 l0_1.length c0_1]] rfl (by (try simp only [List.map_toArray,List.map_cons,List.map_nil]);first|done|rfl|(simp only [List.length_drop,List.length_take];rfl)) ?_;(with_reducible refine (gazetteerref17_Right.calls k a0_0 _ _ l0_1 false _ ?side1 ?side2 A18.out).mono ?_);(case side1 => repeat (first|exact (Kd.C_below HR0_1.out HB.out)|(with_reducible refine Kd.C_alloc ?_ _)|(with_reducible refine Kd.C_drewN ?_ _)|(with_reducible refine Kd.C_drew ?_)));(case side2 => exact HC0_1.out);rintro e w124 ⟨rfl,hb⟩;refine ⟨_,rfl,?_⟩;have n0_:=Ak (Kd.R_below (by (with_reducible repeat (first|apply Kd.R_alloc|apply Kd.R_drewN|apply Kd.R_drew));exact HO162.out) hb);have n1_:=Ak (Kd.R_below (by (with_reducible repeat (first|apply Kd.R_alloc|apply Kd.R_drewN|apply Kd.R_drew));exact HO167.out) hb);have n2_:=Ak (kB (g:=gb155) (o:=.cells #[.int .u64 a0_0,.slice A0_1 l0_1.length c0_1] 25 (0,0)) (by (with_reducible repeat (first|refine kN ?_ _|refine kD ?_|refine kA ?_ _));exact BK155.out) hb);have n3_:=Ak (kB (g:=gb156) (o:=.cells #[.int .u64 a1_0,.bool a1_1,.int .u64 a1_2] 27 (0,0)) (by (with_reducible repeat (first|refine kN ?_ _|refine kD ?_|refine kA ?_ _));exact BK156.out) hb);have n4_:=Ak (kB (g:=gb157) (o:=.cells #[.int .u32 a2_0,.int .u64 a2_1,.int .u64 a2_2,.int .i64 a2_3,.int .i64 a2_4,.int .i64 a2_5,.int .i64 a2_6,.int .i64 a2_7] 32 (0,0)) (by (with_reducible repeat (first|refine kN ?_ _|refine kD ?_|refine kA ?_ _));exact BK157.out) hb);have n5_:=Ak (below_step (by repeat (first|(with_reducible first|exact HB.out|apply bA|apply bN|apply bD|refine bS ?_ GE155.out|refine bS ?_ GE156.out|refine bS ?_ GE157.out)|exact HB.out)) hb);clear HO162;clear HO167;clear BK155;clear BK156;clear BK157;clear HB;have HO162:=n0_;have HO167:=n1_;have BK155:=n2_;have BK156:=n3_;have BK157:=n4_;have HB:=n5_;clear n0_ n1_ n2_ n3_ n4_ n5_;(try clear hb);(try clear hb2);(try clear hk);(try clear hi)))
       have n0_:=Ak (Kd.R_drew HO162.out)
       have n1_:=Ak (Kd.R_drew HO167.out)
       have n2_:=Ak (kD BK155.out)
       have n3_:=Ak (kD BK156.out)
       have n4_:=Ak (kD BK157.out)
       have n5_:=Ak (bD HB.out)
       clear HO162
       clear HO167
       clear BK155
       clear BK156
       clear BK157
       clear HB
       have HO162:=n0_
       have HO167:=n1_
       have BK155:=n2_
       have BK156:=n3_
       have BK157:=n4_
       have HB:=n5_
       clear n0_ n1_ n2_ n3_ n4_ n5_
       refine start_ (n:=20) (S:=fun w' => w'.cell? ⟨gb155,0,none⟩ = some (.int .u64 a0_0)∧w'.cell? ⟨gb155,1,none⟩ = some (.slice A0_1 l0_1.length c0_1)∧w'.cell? ⟨gb156,0,none⟩ = some (.int .u64 a1_0)∧w'.cell? ⟨gb156,1,none⟩ = some (.bool a1_1)∧w'.cell? ⟨gb156,2,none⟩ = some (.int .u64 a1_2)∧w'.cell? ⟨gb157,0,none⟩ = some (.int .u32 a2_0)∧w'.cell? ⟨gb157,1,none⟩ = some (.int .u64 a2_1)∧w'.cell? ⟨gb157,2,none⟩ = some (.int .u64 a2_2)∧w'.cell? ⟨gb157,3,none⟩ = some (.int .i64 a2_3)∧w'.cell? ⟨gb157,4,none⟩ = some (.int .i64 a2_4)∧w'.cell? ⟨gb157,5,none⟩ = some (.int .i64 a2_5)∧w'.cell? ⟨gb157,6,none⟩ = some (.int .i64 a2_6)∧w'.cell? ⟨gb157,7,none⟩ = some (.int .i64 a2_7)) (ds:=[]) #[ff,ff,ff,ff,ff,ff,ff,ff,ff,ff,ff,ff,ff,ff,ff,ff,ff,ff,ff,ff] (by kernel_rfl) rfl rfl ⟨(kC BK155.out 0).trans rfl,(kC BK155.out 1).trans rfl,(kC BK156.out 0).trans rfl,(kC BK156.out 1).trans rfl,(kC BK156.out 2).trans rfl,(kC BK157.out 0).trans rfl,(kC BK157.out 1).trans rfl,(kC BK157.out 2).trans rfl,(kC BK157.out 3).trans rfl,(kC BK157.out 4).trans rfl,(kC BK157.out 5).trans rfl,(kC BK157.out 6).trans rfl,(kC BK157.out 7).trans rfl⟩ (fun hHeld => ?_);refine with_tabW gazetteerlaw17_VisionCounts.tab8 gazetteerlaw17_VisionCounts.bits8 (fun HT_ HW_ => ?_)
       generalize w124.drew = w125 at HO162 HO167 BK155 BK156 BK157 HB hHeld ⊢
       refine pure_ (i:=0) (N:=some 30) (v:=?_) (a':=?_) #[tt,ff,ff,ff,ff,ff,ff,ff,ff,ff,ff,ff,ff,ff,ff,ff,ff,ff,ff,ff] rfl rfl (any_of HT_.out (by kernel_rfl)) (fun _ _ _ h => h) (Or.inl ⟨by rfl,?_⟩) ?_ ?_
       rotate_left
       ·intro w'
        go_simp
        with_reducible rfl
       rotate_left
       ·simp only [Act.put,sA,sZ,sS,i64_w,i32_w]
        rfl
       refine pure_ (i:=1) (N:=some 31) (v:=?_) (a':=?_) #[tt,tt,ff,ff,ff,ff,ff,ff,ff,ff,ff,ff,ff,ff,ff,ff,ff,ff,ff,ff] rfl rfl (any_of HT_.out (by kernel_rfl)) (fun _ _ _ h => h) (Or.inl ⟨by rfl,?_⟩) ?_ ?_
       rotate_left
       ·intro w'
        go_simp
        with_reducible rfl
       rotate_left
       ·simp only [Act.put,sA,sZ,sS,i64_w,i32_w]
        rfl
       refine pure_ (i:=2) (N:=some 32) (v:=?_) (a':=?_) #[tt,tt,tt,ff,ff,ff,ff,ff,ff,ff,ff,ff,ff,ff,ff,ff,ff,ff,ff,ff] rfl rfl (any_of HT_.out (by kernel_rfl)) (fun _ _ _ h => h) (Or.inl ⟨by rfl,?_⟩) ?_ ?_
       rotate_left
       ·intro w'
        go_simp
        with_reducible rfl
       rotate_left
       ·simp only [Act.put,sA,sZ,sS,i64_w,i32_w]
        rfl
       refine pure_ (i:=3) (N:=some 33) (v:=?_) (a':=?_) #[tt,tt,tt,tt,ff,ff,ff,ff,ff,ff,ff,ff,ff,ff,ff,ff,ff,ff,ff,ff] rfl rfl (any_of HT_.out (by kernel_rfl)) (fun _ _ _ h => h) (Or.inl ⟨by rfl,?_⟩) ?_ ?_
       rotate_left
       ·intro w'
        go_simp
        with_reducible rfl
       rotate_left
       ·simp only [Act.put,sA,sZ,sS,i64_w,i32_w]
        rfl
       refine pure_ (i:=4) (N:=some 34) (v:=?_) (a':=?_) #[tt,tt,tt,tt,tt,ff,ff,ff,ff,ff,ff,ff,ff,ff,ff,ff,ff,ff,ff,ff] rfl rfl (any_of HT_.out (by kernel_rfl)) (fun _ _ _ h => h) (Or.inl ⟨by rfl,?_⟩) ?_ ?_
       rotate_left
       ·intro w'
        go_simp
        with_reducible rfl
       rotate_left
       ·simp only [Act.put,sA,sZ,sS,i64_w,i32_w]
        rfl
       refine pure_ (i:=5) (N:=some 35) (v:=?_) (a':=?_) #[tt,tt,tt,tt,tt,tt,ff,ff,ff,ff,ff,ff,ff,ff,ff,ff,ff,ff,ff,ff] rfl rfl (any_of HT_.out (by kernel_rfl)) (fun _ _ _ h => h) (Or.inl ⟨by rfl,?_⟩) ?_ ?_
       rotate_left
       ·intro w'
        go_simp
        with_reducible rfl
       rotate_left
       ·simp only [Act.put,sA,sZ,sS,i64_w,i32_w]
        rfl
       refine pure_ (i:=6) (N:=some 36) (v:=?_) (a':=?_) #[tt,tt,tt,tt,tt,tt,tt,ff,ff,ff,ff,ff,ff,ff,ff,ff,ff,ff,ff,ff] rfl rfl (any_of HT_.out (by kernel_rfl)) (fun _ _ _ h => h) (Or.inl ⟨by rfl,?_⟩) ?_ ?_
       rotate_left
       ·intro w'
        go_simp
        with_reducible rfl
       rotate_left
       ·simp only [Act.put,sA,sZ,sS,i64_w,i32_w]
        rfl
       refine pure_ (i:=7) (N:=some 37) (v:=?_) (a':=?_) #[tt,tt,tt,tt,tt,tt,tt,tt,ff,ff,ff,ff,ff,ff,ff,ff,ff,ff,ff,ff] rfl rfl (any_of HT_.out (by kernel_rfl)) (fun _ _ _ h => h) (Or.inl ⟨by rfl,?_⟩) ?_ ?_
       rotate_left
       ·intro w'
        go_simp
        with_reducible rfl
       rotate_left
       ·simp only [Act.put,sA,sZ,sS,i64_w,i32_w]
        rfl
       refine pure_ (i:=8) (N:=some 38) (v:=?_) (a':=?_) #[tt,tt,tt,tt,tt,tt,tt,tt,tt,ff,ff,ff,ff,ff,ff,ff,ff,ff,ff,ff] rfl rfl (any_of HT_.out (by kernel_rfl)) (fun _ _ _ h => h) (Or.inl ⟨by rfl,?_⟩) ?_ ?_
       rotate_left
       ·intro w'
        go_simp
        with_reducible rfl
       rotate_left
       ·simp only [Act.put,sA,sZ,sS,i64_w,i32_w]
        rfl
       refine pure_ (i:=9) (N:=some 39) (v:=?_) (a':=?_) #[tt,tt,tt,tt,tt,tt,tt,tt,tt,tt,ff,ff,ff,ff,ff,ff,ff,ff,ff,ff] rfl rfl (any_of HT_.out (by kernel_rfl)) (fun _ _ _ h => h) (Or.inl ⟨by rfl,?_⟩) ?_ ?_
       rotate_left
       ·intro w'
        go_simp
        with_reducible rfl
       rotate_left
       ·simp only [Act.put,sA,sZ,sS,i64_w,i32_w]
        rfl
       refine pure_ (i:=10) (N:=some 40) (v:=?_) (a':=?_) #[tt,tt,tt,tt,tt,tt,tt,tt,tt,tt,tt,ff,ff,ff,ff,ff,ff,ff,ff,ff] rfl rfl (any_of HT_.out (by kernel_rfl)) (fun _ _ _ h => h) (Or.inl ⟨by rfl,?_⟩) ?_ ?_
       rotate_left
       ·intro w'
        go_simp
        with_reducible rfl
       rotate_left
       ·simp only [Act.put,sA,sZ,sS,i64_w,i32_w]
        rfl
       refine pure_ (i:=14) (N:=some 44) (v:=?_) (a':=?_) #[tt,tt,tt,tt,tt,tt,tt,tt,tt,tt,tt,ff,ff,ff,tt,ff,ff,ff,ff,ff] rfl rfl (any_of HT_.out (by kernel_rfl)) (fun _ _ _ h => h) (Or.inl ⟨by rfl,?_⟩) ?_ ?_
       rotate_left
       ·intro w'
        go_simp
        with_reducible rfl
       rotate_left
       ·simp only [Act.put,sA,sZ,sS,i64_w,i32_w]
        rfl
       refine take_ (i:=11) (N:=some 41) (v:=?_) (a':=?_) #[tt,tt,tt,tt,tt,tt,tt,tt,tt,tt,tt,tt,ff,ff,tt,ff,ff,ff,ff,ff] rfl rfl (take_ofW HT_.out HW_.out (by kernel_rfl)) (fun _ _ _ h => h) (Or.inl ⟨by rfl,?_⟩) hHeld ?_ ?_
       rotate_left
       ·rintro w' ⟨s0,s1,s2,s3,s4,s5,s6,s7,s8,s9,s10,s11,s12⟩
        go_simp
        with_reducible rfl
       rotate_left
       ·simp only [Act.put,sA,sZ,sS,i64_w,i32_w]
        rfl
       refine take_ (i:=13) (N:=some 43) (v:=?_) (a':=?_) #[tt,tt,tt,tt,tt,tt,tt,tt,tt,tt,tt,tt,ff,tt,tt,ff,ff,ff,ff,ff] rfl rfl (take_ofW HT_.out HW_.out (by kernel_rfl)) (fun _ _ _ h => h) (Or.inl ⟨by rfl,?_⟩) hHeld ?_ ?_
       rotate_left
       ·rintro w' ⟨s0,s1,s2,s3,s4,s5,s6,s7,s8,s9,s10,s11,s12⟩
        go_simp
        with_reducible rfl
       rotate_left
       ·simp only [Act.put,sA,sZ,sS,i64_w,i32_w]
        rfl
       refine take_ (i:=15) (N:=some 45) (v:=?_) (a':=?_) #[tt,tt,tt,tt,tt,tt,tt,tt,tt,tt,tt,tt,ff,tt,tt,tt,ff,ff,ff,ff] rfl rfl (take_ofW HT_.out HW_.out (by kernel_rfl)) (fun _ _ _ h => h) (Or.inl ⟨by rfl,?_⟩) hHeld ?_ ?_
       rotate_left
       ·rintro w' ⟨s0,s1,s2,s3,s4,s5,s6,s7,s8,s9,s10,s11,s12⟩
        go_simp
        with_reducible rfl
       rotate_left
       ·simp only [Act.put,sA,sZ,sS,i64_w,i32_w]
        rfl
       refine one_ (i:=12) (N:=some 42) #[tt,tt,tt,tt,tt,tt,tt,tt,tt,tt,tt,tt,tt,tt,tt,tt,ff,ff,ff,ff] rfl rfl (one_of HT_.out (by kernel_rfl)) (by decide) (fun K hK => ?_)
       refine goes_ Try.func11 (by kernel_rfl) rfl #[.agg #[.int .u64 a0_0,.slice A0_1 l0_1.length c0_1]] (by rfl) rfl rfl (by (try simp only [List.map_toArray,List.map_cons,List.map_nil]);first|done|rfl|(simp only [List.length_drop,List.length_take];rfl)) ?_
       with_reducible refine (gazetteerlaw17_copied.calls a0_0 _ _ l0_1 t171 t172 _ ?side1 ?side2 A107.out).mono ?_
       (case side1 => repeat (first|exact (Kd.C_below HR0_1.out HB.out)|(with_reducible refine Kd.C_alloc ?_ _)|(with_reducible refine Kd.C_drewN ?_ _)|(with_reducible refine Kd.C_drew ?_)))
       (case side2 => exact HC0_1.out)
       rintro e w126 ⟨v173,rfl,ho0,hb⟩
       refine ⟨_,rfl,?_⟩
       have n0_:=Ak (Kd.R_elder' (by (with_reducible repeat (first|apply Kd.R_alloc|apply Kd.R_drewN|apply Kd.R_drew));exact HO162.out) (Kd.R_base ho0) hb)
       have n1_:=Ak (Kd.R_elder' (by (with_reducible repeat (first|apply Kd.R_alloc|apply Kd.R_drewN|apply Kd.R_drew));exact HO167.out) (Kd.R_base ho0) hb)
       have n2_:=Ak (Kd.R_lower (Kd.R_new' (Kd.R_new' ho0 (Kd.R_lt (by (with_reducible repeat (first|apply Kd.R_alloc|apply Kd.R_drewN|apply Kd.R_drew));exact HO162.out))) (Kd.R_lt (by (with_reducible repeat (first|apply Kd.R_alloc|apply Kd.R_drewN|apply Kd.R_drew));exact HO167.out))) (below_size (by repeat (first|(with_reducible first|exact HB.out|apply bA|apply bN|apply bD|refine bS ?_ GE155.out|refine bS ?_ GE156.out|refine bS ?_ GE157.out)|exact HB.out))))
       have n3_:=Ak (kB (g:=gb155) (o:=.cells #[.int .u64 a0_0,.slice A0_1 l0_1.length c0_1] 25 (0,0)) (by (with_reducible repeat (first|refine kN ?_ _|refine kD ?_|refine kA ?_ _));exact BK155.out) hb)
       have n4_:=Ak (kB (g:=gb156) (o:=.cells #[.int .u64 a1_0,.bool a1_1,.int .u64 a1_2] 27 (0,0)) (by (with_reducible repeat (first|refine kN ?_ _|refine kD ?_|refine kA ?_ _));exact BK156.out) hb)
       have n5_:=Ak (kB (g:=gb157) (o:=.cells #[.int .u32 a2_0,.int .u64 a2_1,.int .u64 a2_2,.int .i64 a2_3,.int .i64 a2_4,.int .i64 a2_5,.int .i64 a2_6,.int .i64 a2_7] 32 (0,0)) (by (with_reducible repeat (first|refine kN ?_ _|refine kD ?_|refine kA ?_ _));exact BK157.out) hb)
       have n6_:=Ak (below_step (by repeat (first|(with_reducible first|exact HB.out|apply bA|apply bN|apply bD|refine bS ?_ GE155.out|refine bS ?_ GE156.out|refine bS ?_ GE157.out)|exact HB.out)) hb)
       clear HO162
       clear HO167
       clear BK155
       clear BK156
       clear BK157
       clear HB
       have HO162:=n0_
       have HO167:=n1_
       have HO174:=n2_
       have BK155:=n3_
       have BK156:=n4_
       have BK157:=n5_
       have HB:=n6_
       clear n0_ n1_ n2_ n3_ n4_ n5_ n6_
       (try clear hb)
       (try clear hb2)
       (try clear hk)
       (try clear hi)
       (try clear ho0)
       obtain ⟨Ao127,co127,eo127⟩:=Kd.R_slice HO174.out
       (first|subst eo127|(injection eo127 with f1_ f2_ f3_;have f4_:=f1_.symm;have f5_:=f3_.symm;clear f1_ f2_ f3_;subst f4_;subst f5_))
       refine hK.out _ _ ⟨(kC BK155.out 0).trans rfl,(kC BK155.out 1).trans rfl,(kC BK156.out 0).trans rfl,(kC BK156.out 1).trans rfl,(kC BK156.out 2).trans rfl,(kC BK157.out 0).trans rfl,(kC BK157.out 1).trans rfl,(kC BK157.out 2).trans rfl,(kC BK157.out 3).trans rfl,(kC BK157.out 4).trans rfl,(kC BK157.out 5).trans rfl,(kC BK157.out 6).trans rfl,(kC BK157.out 7).trans rfl⟩ (fun hHeld => ?_)
       clear hK K
       refine norm_ (a':=?_) ?_ ?_
       rotate_left
       ·show Act.put _ (some 42) _ = _
        simp only [Act.put,sA,sZ,sS,i64_w,i32_w]
        rfl
       refine one_ (i:=16) (N:=some 46) #[tt,tt,tt,tt,tt,tt,tt,tt,tt,tt,tt,tt,tt,tt,tt,tt,tt,ff,ff,ff] rfl rfl (one_of HT_.out (by kernel_rfl)) (by decide) (fun K hK => ?_)
       refine goes_ Try.func14 (by kernel_rfl) rfl #[.agg #[.int .u64 t171,.slice Ao127 t172.length co127],.agg #[.int .u64 a1_0,.bool a1_1,.int .u64 a1_2],.int .u64 a2_1] (by rfl) rfl rfl (by (try simp only [List.map_toArray,List.map_cons,List.map_nil]);first|done|rfl|(simp only [List.length_drop,List.length_take];rfl)) ?_
       with_reducible refine (vision_Counts.calls t171 _ _ t172 a1_0 a1_1 a1_2 a2_1 t175 _ ?side1 ?side2 A108.out).mono ?_
       (case side1 => repeat (first|exact (Kd.R_reads' HO174.out).2.2|(with_reducible refine Kd.C_alloc ?_ _)|(with_reducible refine Kd.C_drewN ?_ _)|(with_reducible refine Kd.C_drew ?_)))
       (case side2 => exact (Kd.R_reads' HO174.out).2.1)
       rintro e w128 ⟨rfl,hb⟩
       refine ⟨_,rfl,?_⟩
       have n0_:=Ak (Kd.R_below (by (with_reducible repeat (first|apply Kd.R_alloc|apply Kd.R_drewN|apply Kd.R_drew));exact HO162.out) hb)
       have n1_:=Ak (Kd.R_below (by (with_reducible repeat (first|apply Kd.R_alloc|apply Kd.R_drewN|apply Kd.R_drew));exact HO167.out) hb)
       have n2_:=Ak (Kd.R_below (by (with_reducible repeat (first|apply Kd.R_alloc|apply Kd.R_drewN|apply Kd.R_drew));exact HO174.out) hb)
       have n3_:=Ak (kB (g:=gb155) (o:=.cells #[.int .u64 a0_0,.slice A0_1 l0_1.length c0_1] 25 (0,0)) (by (with_reducible repeat (first|refine kN ?_ _|refine kD ?_|refine kA ?_ _));exact BK155.out) hb)
       have n4_:=Ak (kB (g:=gb156) (o:=.cells #[.int .u64 a1_0,.bool a1_1,.int .u64 a1_2] 27 (0,0)) (by (with_reducible repeat (first|refine kN ?_ _|refine kD ?_|refine kA ?_ _));exact BK156.out) hb)
       have n5_:=Ak (kB (g:=gb157) (o:=.cells #[.int .u32 a2_0,.int .u64 a2_1,.int .u64 a2_2,.int .i64 a2_3,.int .i64 a2_4,.int .i64 a2_5,.int .i64 a2_6,.int .i64 a2_7] 32 (0,0)) (by (with_reducible repeat (first|refine kN ?_ _|refine kD ?_|refine kA ?_ _));exact BK157.out) hb)
       have n6_:=Ak (below_step (by repeat (first|(with_reducible first|exact HB.out|apply bA|apply bN|apply bD|refine bS ?_ GE155.out|refine bS ?_ GE156.out|refine bS ?_ GE157.out)|exact HB.out)) hb)
       clear HO162
       clear HO167
       clear HO174
       clear BK155
       clear BK156
       clear BK157
       clear HB
       have HO162:=n0_
       have HO167:=n1_
       have HO174:=n2_
       have BK155:=n3_
       have BK156:=n4_
       have BK157:=n5_
       have HB:=n6_
       clear n0_ n1_ n2_ n3_ n4_ n5_ n6_
       (try clear hb)
       (try clear hb2)
       (try clear hk)
       (try clear hi)
       refine hK.out _ _ ⟨(kC BK155.out 0).trans rfl,(kC BK155.out 1).trans rfl,(kC BK156.out 0).trans rfl,(kC BK156.out 1).trans rfl,(kC BK156.out 2).trans rfl,(kC BK157.out 0).trans rfl,(kC BK157.out 1).trans rfl,(kC BK157.out 2).trans rfl,(kC BK157.out 3).trans rfl,(kC BK157.out 4).trans rfl,(kC BK157.out 5).trans rfl,(kC BK157.out 6).trans rfl,(kC BK157.out 7).trans rfl⟩ (fun hHeld => ?_)
       clear hK K
       refine norm_ (a':=?_) ?_ ?_
       rotate_left
       ·show Act.put _ (some 46) _ = _
        simp only [Act.put,sA,sZ,sS,i64_w,i32_w]
        rfl
       refine pure_ (i:=17) (N:=some 47) (v:=?_) (a':=?_) #[tt,tt,tt,tt,tt,tt,tt,tt,tt,tt,tt,tt,tt,tt,tt,tt,tt,tt,ff,ff] rfl rfl (any_of HT_.out (by kernel_rfl)) (fun _ _ _ h => h) (Or.inl ⟨by rfl,?_⟩) ?_ ?_
       rotate_left
       ·intro w'
        go_simp
        with_reducible rfl
       rotate_left
       ·simp only [Act.put,sA,sZ,sS,i64_w,i32_w]
        rfl
       refine pure_ (i:=18) (N:=some 48) (v:=?_) (a':=?_) #[tt,tt,tt,tt,tt,tt,tt,tt,tt,tt,tt,tt,tt,tt,tt,tt,tt,tt,tt,ff] rfl rfl (any_of HT_.out (by kernel_rfl)) (fun _ _ _ h => h) (Or.inl ⟨by rfl,?_⟩) ?_ ?_
       rotate_left
       ·intro w'
        go_simp
        with_reducible rfl
       rotate_left
       ·simp only [Act.put,sA,sZ,sS,i64_w,i32_w]
        rfl
       refine pure_ (i:=19) (N:=some 6) (v:=?_) (a':=?_) #[tt,tt,tt,tt,tt,tt,tt,tt,tt,tt,tt,tt,tt,tt,tt,tt,tt,tt,tt,tt] rfl rfl (any_of HT_.out (by kernel_rfl)) (fun _ _ _ h => h) (Or.inl ⟨by rfl,?_⟩) ?_ ?_
       rotate_left
       ·intro w'
        go_simp
        with_reducible rfl
       rotate_left
       ·simp only [Act.put,sA,sZ,sS,i64_w,i32_w]
        rfl
       refine done_ (done_of HT_.out (by kernel_rfl)) ?_
       try go_wp2
       go_ret
       exact ⟨by first|rfl|(simp [errW_none,errW_some] <;> rfl)|(simp [*,errW_none,errW_some] <;> rfl),by repeat (first|(with_reducible first|exact HB.out|apply bA|apply bN|apply bD|refine bS ?_ GE155.out|refine bS ?_ GE156.out|refine bS ?_ GE157.out)|exact HB.out)⟩
      ·rw [if_neg c106] at H
       have c106b0 : (t169 == 270) = false:=beq_eq_false_iff_ne.mpr c106
       have c106b1 : (t169 != 270) = true:=bne_iff_ne.mpr c106
       obtain rfl:=Option.some.inj H
       go_enter Try.func3,Try.ntmps3
       try go_wp2_with (first|((with_reducible refine gate_dst (N:=3) rfl ?_);refine box_event ?hg (N:=3) ?hd (cs:=#[.int .u64 a0_0,.slice A0_1 l0_1.length c0_1]) (t:=25) ?hr ?_;(case hd => rfl);(case hg => rfl);(case hr => first|(go_simp;done)|(go_simp;rfl));intro gb155 hg w129 hbox hb;have n0_:=Ak (below_step (by repeat (first|(with_reducible first|exact HB.out|apply bA|apply bN|apply bD)|exact HB.out)) hb);have n1_:=Ak (hbox);have n2_:=Ak ((by rw [hg];exact (below_size (by repeat (first|(with_reducible first|exact HB.out|apply bA|apply bN|apply bD)|exact HB.out))) : w.heap.size ≤ gb155));have n3_:=Ak ((by rw [hg];exact (below_size (by repeat (first|(with_reducible first|exact HB.out|apply bA|apply bN|apply bD)|exact HB.out))) : w.heap.size ≤ gb155));clear HB;have HB:=n0_;have BK155:=n1_;have GW155:=n2_;have GE155:=n3_;clear n0_ n1_ n2_ n3_;clear hb hbox hg)|((with_reducible refine gate_dst (N:=4) rfl ?_);refine box_event ?hg (N:=4) ?hd (cs:=#[.int .u64 a1_0,.bool a1_1,.int .u64 a1_2]) (t:=27) ?hr ?_;(case hd => rfl);(case hg => rfl);(case hr => first|(go_simp;done)|(go_simp;rfl));intro gb156 hg w130 hbox hb;have n0_:=Ak (kB (g:=gb155) (o:=.cells #[.int .u64 a0_0,.slice A0_1 l0_1.length c0_1] 25 (0,0)) (by (with_reducible repeat (first|refine kN ?_ _|refine kD ?_|refine kA ?_ _));exact BK155.out) hb);have n1_:=Ak (below_step (by repeat (first|(with_reducible first|exact HB.out|apply bA|apply bN|apply bD|refine bS ?_ GE155.out)|exact HB.out)) hb);have n2_:=Ak (hbox);have n3_:=Ak ((by rw [hg];exact (below_size (by repeat (first|(with_reducible first|exact HB.out|apply bA|apply bN|apply bD|refine bS ?_ GE155.out)|exact HB.out))) : w.heap.size ≤ gb156));have n4_:=Ak ((by rw [hg];exact (below_size (by repeat (first|(with_reducible first|exact HB.out|apply bA|apply bN|apply bD|refine bS ?_ GE155.out)|exact HB.out))) : w.heap.size ≤ gb156));have n5_:=Ak ((by rw [hg];exact Nat.ne_of_lt (blk_lt (g:=gb155) (o:=.cells #[.int .u64 a0_0,.slice A0_1 l0_1.length c0_1] 25 (0,0)) (by (with_reducible repeat (first|refine kN ?_ _|refine kD ?_|refine kA ?_ _));exact BK155.out)) : gb155 ≠ gb156));have n6_:=Ak ((by rw [hg];exact Nat.ne_of_gt (blk_lt (g:=gb155) (o:=.cells #[.int .u64 a0_0,.slice A0_1 l0_1.length c0_1] 25 (0,0)) (by (with_reducible repeat (first|refine kN ?_ _|refine kD ?_|refine kA ?_ _));exact BK155.out)) : gb156 ≠ gb155));clear BK155;clear HB;have BK155:=n0_;have HB:=n1_;have BK156:=n2_;have GW156:=n3_;have GE156:=n4_;have NB155_156:=n5_;have NB156_155:=n6_;clear n0_ n1_ n2_ n3_ n4_ n5_ n6_;clear hb hbox hg)|((with_reducible refine gate_dst (N:=5) rfl ?_);refine box_event ?hg (N:=5) ?hd (cs:=#[.int .u32 a2_0,.int .u64 a2_1,.int .u64 a2_2,.int .i64 a2_3,.int .i64 a2_4,.int .i64 a2_5,.int .i64 a2_6,.int .i64 a2_7]) (t:=32) ?hr ?_;(case hd => rfl);(case hg => rfl);(case hr => first|(go_simp;done)|(go_simp;rfl));intro gb157 hg w131 hbox hb;have n0_:=Ak (kB (g:=gb155) (o:=.cells #[.int .u64 a0_0,.slice A0_1 l0_1.length c0_1] 25 (0,0)) (by (with_reducible repeat (first|refine kN ?_ _|refine kD ?_|refine kA ?_ _));exact BK155.out) hb);have n1_:=Ak (kB (g:=gb156) (o:=.cells #[.int .u64 a1_0,.bool a1_1,.int .u64 a1_2] 27 (0,0)) (by (with_reducible repeat (first|refine kN ?_ _|refine kD ?_|refine kA ?_ _));exact BK156.out) hb);have n2_:=Ak (below_step (by repeat (first|(with_reducible first|exact HB.out|apply bA|apply bN|apply bD|refine bS ?_ GE155.out|refine bS ?_ GE156.out)|exact HB.out)) hb);have n3_:=Ak (hbox);have n4_:=Ak ((by rw [hg];exact (below_size (by repeat (first|(with_reducible first|exact HB.out|apply bA|apply bN|apply bD|refine bS ?_ GE155.out|refine bS ?_ GE156.out)|exact HB.out))) : w.heap.size ≤ gb157));have n5_:=Ak ((by rw [hg];exact (below_size (by repeat (first|(with_reducible first|exact HB.out|apply bA|apply bN|apply bD|refine bS ?_ GE155.out|refine bS ?_ GE156.out)|exact HB.out))) : w.heap.size ≤ gb157));have n6_:=Ak ((by rw [hg];exact Nat.ne_of_lt (blk_lt (g:=gb155) (o:=.cells #[.int .u64 a0_0,.slice A0_1 l0_1.length c0_1] 25 (0,0)) (by (with_reducible repeat (first|refine kN ?_ _|refine kD ?_|refine kA ?_ _));exact BK155.out)) : gb155 ≠ gb157));have n7_:=Ak ((by rw [hg];exact Nat.ne_of_gt (blk_lt (g:=gb155) (o:=.cells #[.int .u64 a0_0,.slice A0_1 l0_1.length c0_1] 25 (0,0)) (by (with_reducible repeat (first|refine kN ?_ _|refine kD ?_|refine kA ?_ _));exact BK155.out)) : gb157 ≠ gb155));have n8_:=Ak ((by rw [hg];exact Nat.ne_of_lt (blk_lt (g:=gb156) (o:=.cells #[.int .u64 a1_0,.bool a1_1,.int .u64 a1_2] 27 (0,0)) (by (with_reducible repeat (first|refine kN ?_ _|refine kD ?_|refine kA ?_ _));exact BK156.out)) : gb156 ≠ gb157));have n9_:=Ak ((by rw [hg];exact Nat.ne_of_gt (blk_lt (g:=gb156) (o:=.cells #[.int .u64 a1_0,.bool a1_1,.int .u64 a1_2] 27 (0,0)) (by (with_reducible repeat (first|refine kN ?_ _|refine kD ?_|refine kA ?_ _));exact BK156.out)) : gb157 ≠ gb156));clear BK155;clear BK156;clear HB;have BK155:=n0_;have BK156:=n1_;have HB:=n2_;have BK157:=n3_;have GW157:=n4_;have GE157:=n5_;have NB155_157:=n6_;have NB157_155:=n7_;have NB156_157:=n8_;have NB157_156:=n9_;clear n0_ n1_ n2_ n3_ n4_ n5_ n6_ n7_ n8_ n9_;clear hb hbox hg)|((with_reducible refine gate_callee (f:=9) rfl ?_);refine goesL_ (some 10) rfl rfl Try.func9 (by kernel_rfl) rfl #[] rfl (by (try simp only [List.map_toArray,List.map_cons,List.map_nil]);first|done|rfl|(simp only [List.length_drop,List.length_take];rfl)) ?_;(with_reducible refine (gazetteerlaw17_wakes.calls  true _ A4.out).mono ?_);rintro e w132 ⟨rfl,hb⟩;refine ⟨_,rfl,?_⟩;have n0_:=Ak (kB (g:=gb155) (o:=.cells #[.int .u64 a0_0,.slice A0_1 l0_1.length c0_1] 25 (0,0)) (by (with_reducible repeat (first|refine kN ?_ _|refine kD ?_|refine kA ?_ _));exact BK155.out) hb);have n1_:=Ak (kB (g:=gb156) (o:=.cells #[.int .u64 a1_0,.bool a1_1,.int .u64 a1_2] 27 (0,0)) (by (with_reducible repeat (first|refine kN ?_ _|refine kD ?_|refine kA ?_ _));exact BK156.out) hb);have n2_:=Ak (kB (g:=gb157) (o:=.cells #[.int .u32 a2_0,.int .u64 a2_1,.int .u64 a2_2,.int .i64 a2_3,.int .i64 a2_4,.int .i64 a2_5,.int .i64 a2_6,.int .i64 a2_7] 32 (0,0)) (by (with_reducible repeat (first|refine kN ?_ _|refine kD ?_|refine kA ?_ _));exact BK157.out) hb);have n3_:=Ak (below_step (by repeat (first|(with_reducible first|exact HB.out|apply bA|apply bN|apply bD|refine bS ?_ GE155.out|refine bS ?_ GE156.out|refine bS ?_ GE157.out)|exact HB.out)) hb);clear BK155;clear BK156;clear BK157;clear HB;have BK155:=n0_;have BK156:=n1_;have BK157:=n2_;have HB:=n3_;clear n0_ n1_ n2_ n3_;(try clear hb);(try clear hb2);(try clear hk);(try clear hi);have hnb133:=NB155_156.out;have hnc133:=NB156_155.out;have hnb134:=NB155_157.out;have hnc134:=NB157_155.out;have hcz135_0 : w132.cell? ⟨gb155,0,none⟩ = some (.int .u64 a0_0):=(kC BK155.out 0).trans rfl;have hcz135_1 : w132.cell? ⟨gb155,1,none⟩ = some (.slice A0_1 l0_1.length c0_1):=(kC BK155.out 1).trans rfl;have hfz135_0:=blk_frozen BK155.out 0;have hfz135_1:=blk_frozen BK155.out 1)|((with_reducible refine gate_callee (f:=11) rfl ?_);refine goesL_ (some 17) rfl rfl Try.func11 (by kernel_rfl) rfl #[.agg #[.int .u64 a0_0,.slice A0_1 l0_1.length c0_1]] rfl (by (try simp only [List.map_toArray,List.map_cons,List.map_nil]);first|done|rfl|(simp only [List.length_drop,List.length_take];rfl)) ?_;(with_reducible refine (gazetteerlaw17_copied.calls a0_0 _ _ l0_1 t159 t160 _ ?side1 ?side2 A14.out).mono ?_);(case side1 => repeat (first|exact (Kd.C_below HR0_1.out HB.out)|(with_reducible refine Kd.C_alloc ?_ _)|(with_reducible refine Kd.C_drewN ?_ _)|(with_reducible refine Kd.C_drew ?_)));(case side2 => exact HC0_1.out);rintro e w136 ⟨v161,rfl,ho0,hb⟩;refine ⟨_,rfl,?_⟩;have n0_:=Ak (Kd.R_lower ho0 (below_size (by repeat (first|(with_reducible first|exact HB.out|apply bA|apply bN|apply bD|refine bS ?_ GE155.out|refine bS ?_ GE156.out|refine bS ?_ GE157.out)|exact HB.out))));have n1_:=Ak (kB (g:=gb155) (o:=.cells #[.int .u64 a0_0,.slice A0_1 l0_1.length c0_1] 25 (0,0)) (by (with_reducible repeat (first|refine kN ?_ _|refine kD ?_|refine kA ?_ _));exact BK155.out) hb);have n2_:=Ak (kB (g:=gb156) (o:=.cells #[.int .u64 a1_0,.bool a1_1,.int .u64 a1_2] 27 (0,0)) (by (with_reducible repeat (first|refine kN ?_ _|refine kD ?_|refine kA ?_ _));exact BK156.out) hb);have n3_:=Ak (kB (g:=gb157) (o:=.cells #[.int .u32 a2_0,.int .u64 a2_1,.int .u64 a2_2,.int .i64 a2_3,.int .i64 a2_4,.int .i64 a2_5,.int .i64 a2_6,.int .i64 a2_7] 32 (0,0)) (by (with_reducible repeat (first|refine kN ?_ _|refine kD ?_|refine kA ?_ _));exact BK157.out) hb);have n4_:=Ak (below_step (by repeat (first|(with_reducible first|exact HB.out|apply bA|apply bN|apply bD|refine bS ?_ GE155.out|refine bS ?_ GE156.out|refine bS ?_ GE157.out)|exact HB.out)) hb);clear BK155;clear BK156;clear BK157;clear HB;have HO162:=n0_;have BK155:=n1_;have BK156:=n2_;have BK157:=n3_;have HB:=n4_;clear n0_ n1_ n2_ n3_ n4_;(try clear hb);(try clear hb2);(try clear hk);(try clear hi);(try clear ho0);obtain ⟨Ao137,co137,eo137⟩:=Kd.R_slice HO162.out;subst eo137)|((with_reducible refine gate_callee (f:=10) rfl ?_);refine goesL_ (some 18) rfl rfl Try.func10 (by kernel_rfl) rfl #[.agg #[.int .u64 t159,.slice Ao137 t160.length co137]] rfl (by (try simp only [List.map_toArray,List.map_cons,List.map_nil]);first|done|rfl|(simp only [List.length_drop,List.length_take];rfl)) ?_;(with_reducible refine (vision_Check.calls t159 _ _ t160 t163 _ ?side1 ?side2 A15.out).mono ?_);(case side1 => repeat (first|exact (Kd.R_reads' HO162.out).2.2|(with_reducible refine Kd.C_alloc ?_ _)|(with_reducible refine Kd.C_drewN ?_ _)|(with_reducible refine Kd.C_drew ?_)));(case side2 => exact (Kd.R_reads' HO162.out).2.1);rintro e w138 ⟨rfl,hb⟩;refine ⟨_,rfl,?_⟩;have n0_:=Ak (Kd.R_below (by (with_reducible repeat (first|apply Kd.R_alloc|apply Kd.R_drewN|apply Kd.R_drew));exact HO162.out) hb);have n1_:=Ak (kB (g:=gb155) (o:=.cells #[.int .u64 a0_0,.slice A0_1 l0_1.length c0_1] 25 (0,0)) (by (with_reducible repeat (first|refine kN ?_ _|refine kD ?_|refine kA ?_ _));exact BK155.out) hb);have n2_:=Ak (kB (g:=gb156) (o:=.cells #[.int .u64 a1_0,.bool a1_1,.int .u64 a1_2] 27 (0,0)) (by (with_reducible repeat (first|refine kN ?_ _|refine kD ?_|refine kA ?_ _));exact BK156.out) hb);have n3_:=Ak (kB (g:=gb157) (o:=.cells #[.int .u32 a2_0,.int .u64 a2_1,.int .u64 a2_2,.int .i64 a2_3,.int .i64 a2_4,.int .i64 a2_5,.int .i64 a2_6,.int .i64 a2_7] 32 (0,0)) (by (with_reducible repeat (first|refine kN ?_ _|refine kD ?_|refine kA ?_ _));exact BK157.out) hb);have n4_:=Ak (below_step (by repeat (first|(with_reducible first|exact HB.out|apply bA|apply bN|apply bD|refine bS ?_ GE155.out|refine bS ?_ GE156.out|refine bS ?_ GE157.out)|exact HB.out)) hb);clear HO162;clear BK155;clear BK156;clear BK157;clear HB;have HO162:=n0_;have BK155:=n1_;have BK156:=n2_;have BK157:=n3_;have HB:=n4_;clear n0_ n1_ n2_ n3_ n4_;(try clear hb);(try clear hb2);(try clear hk);(try clear hi)))
       have n0_:=Ak (Kd.R_drew HO162.out)
       have n1_:=Ak (kD BK155.out)
       have n2_:=Ak (kD BK156.out)
       have n3_:=Ak (kD BK157.out)
       have n4_:=Ak (bD HB.out)
       clear HO162
       clear BK155
       clear BK156
       clear BK157
       clear HB
       have HO162:=n0_
       have BK155:=n1_
       have BK156:=n2_
       have BK157:=n3_
       have HB:=n4_
       clear n0_ n1_ n2_ n3_ n4_
       refine start_ (n:=10) (S:=fun w' => w'.cell? ⟨gb155,0,none⟩ = some (.int .u64 a0_0)∧w'.cell? ⟨gb155,1,none⟩ = some (.slice A0_1 l0_1.length c0_1)∧w'.cell? ⟨gb156,0,none⟩ = some (.int .u64 a1_0)∧w'.cell? ⟨gb156,1,none⟩ = some (.bool a1_1)∧w'.cell? ⟨gb156,2,none⟩ = some (.int .u64 a1_2)∧w'.cell? ⟨gb157,0,none⟩ = some (.int .u32 a2_0)∧w'.cell? ⟨gb157,1,none⟩ = some (.int .u64 a2_1)∧w'.cell? ⟨gb157,2,none⟩ = some (.int .u64 a2_2)∧w'.cell? ⟨gb157,3,none⟩ = some (.int .i64 a2_3)∧w'.cell? ⟨gb157,4,none⟩ = some (.int .i64 a2_4)∧w'.cell? ⟨gb157,5,none⟩ = some (.int .i64 a2_5)∧w'.cell? ⟨gb157,6,none⟩ = some (.int .i64 a2_6)∧w'.cell? ⟨gb157,7,none⟩ = some (.int .i64 a2_7)) (ds:=[]) #[ff,ff,ff,ff,ff,ff,ff,ff,ff,ff] (by kernel_rfl) rfl rfl ⟨(kC BK155.out 0).trans rfl,(kC BK155.out 1).trans rfl,(kC BK156.out 0).trans rfl,(kC BK156.out 1).trans rfl,(kC BK156.out 2).trans rfl,(kC BK157.out 0).trans rfl,(kC BK157.out 1).trans rfl,(kC BK157.out 2).trans rfl,(kC BK157.out 3).trans rfl,(kC BK157.out 4).trans rfl,(kC BK157.out 5).trans rfl,(kC BK157.out 6).trans rfl,(kC BK157.out 7).trans rfl⟩ (fun hHeld => ?_);refine with_tabW gazetteerlaw17_VisionCounts.tab6 gazetteerlaw17_VisionCounts.bits6 (fun HT_ HW_ => ?_)
       generalize w138.drew = w139 at HO162 BK155 BK156 BK157 HB hHeld ⊢
       refine take_ (i:=0) (N:=some 20) (v:=?_) (a':=?_) #[tt,ff,ff,ff,ff,ff,ff,ff,ff,ff] rfl rfl (take_ofW HT_.out HW_.out (by kernel_rfl)) (fun _ _ _ h => h) (Or.inl ⟨by rfl,?_⟩) hHeld ?_ ?_
       rotate_left
       ·rintro w' ⟨s0,s1,s2,s3,s4,s5,s6,s7,s8,s9,s10,s11,s12⟩
        go_simp
        with_reducible rfl
       rotate_left
       ·simp only [Act.put,sA,sZ,sS,i64_w,i32_w]
        rfl
       refine take_ (i:=2) (N:=some 22) (v:=?_) (a':=?_) #[tt,ff,tt,ff,ff,ff,ff,ff,ff,ff] rfl rfl (take_ofW HT_.out HW_.out (by kernel_rfl)) (fun _ _ _ h => h) (Or.inl ⟨by rfl,?_⟩) hHeld ?_ ?_
       rotate_left
       ·rintro w' ⟨s0,s1,s2,s3,s4,s5,s6,s7,s8,s9,s10,s11,s12⟩
        go_simp
        with_reducible rfl
       rotate_left
       ·simp only [Act.put,sA,sZ,sS,i64_w,i32_w]
        rfl
       refine take_ (i:=3) (N:=some 23) (v:=?_) (a':=?_) #[tt,ff,tt,tt,ff,ff,ff,ff,ff,ff] rfl rfl (take_ofW HT_.out HW_.out (by kernel_rfl)) (fun _ _ _ h => h) (Or.inl ⟨by rfl,?_⟩) hHeld ?_ ?_
       rotate_left
       ·rintro w' ⟨s0,s1,s2,s3,s4,s5,s6,s7,s8,s9,s10,s11,s12⟩
        go_simp
        with_reducible rfl
       rotate_left
       ·simp only [Act.put,sA,sZ,sS,i64_w,i32_w]
        rfl
       refine one_ (i:=1) (N:=some 21) #[tt,tt,tt,tt,ff,ff,ff,ff,ff,ff] rfl rfl (one_of HT_.out (by kernel_rfl)) (by decide) (fun K hK => ?_)
       refine goes_ Try.func11 (by kernel_rfl) rfl #[.agg #[.int .u64 a0_0,.slice A0_1 l0_1.length c0_1]] (by rfl) rfl rfl (by (try simp only [List.map_toArray,List.map_cons,List.map_nil]);first|done|rfl|(simp only [List.length_drop,List.length_take];rfl)) ?_
       with_reducible refine (gazetteerlaw17_copied.calls a0_0 _ _ l0_1 t164 t165 _ ?side1 ?side2 A16.out).mono ?_
       (case side1 => repeat (first|exact (Kd.C_below HR0_1.out HB.out)|(with_reducible refine Kd.C_alloc ?_ _)|(with_reducible refine Kd.C_drewN ?_ _)|(with_reducible refine Kd.C_drew ?_)))
       (case side2 => exact HC0_1.out)
       rintro e w140 ⟨v166,rfl,ho0,hb⟩
       refine ⟨_,rfl,?_⟩
       have n0_:=Ak (Kd.R_elder' (by (with_reducible repeat (first|apply Kd.R_alloc|apply Kd.R_drewN|apply Kd.R_drew));exact HO162.out) (Kd.R_base ho0) hb)
       have n1_:=Ak (Kd.R_lower (Kd.R_new' ho0 (Kd.R_lt (by (with_reducible repeat (first|apply Kd.R_alloc|apply Kd.R_drewN|apply Kd.R_drew));exact HO162.out))) (below_size (by repeat (first|(with_reducible first|exact HB.out|apply bA|apply bN|apply bD|refine bS ?_ GE155.out|refine bS ?_ GE156.out|refine bS ?_ GE157.out)|exact HB.out))))
       have n2_:=Ak (kB (g:=gb155) (o:=.cells #[.int .u64 a0_0,.slice A0_1 l0_1.length c0_1] 25 (0,0)) (by (with_reducible repeat (first|refine kN ?_ _|refine kD ?_|refine kA ?_ _));exact BK155.out) hb)
       have n3_:=Ak (kB (g:=gb156) (o:=.cells #[.int .u64 a1_0,.bool a1_1,.int .u64 a1_2] 27 (0,0)) (by (with_reducible repeat (first|refine kN ?_ _|refine kD ?_|refine kA ?_ _));exact BK156.out) hb)
       have n4_:=Ak (kB (g:=gb157) (o:=.cells #[.int .u32 a2_0,.int .u64 a2_1,.int .u64 a2_2,.int .i64 a2_3,.int .i64 a2_4,.int .i64 a2_5,.int .i64 a2_6,.int .i64 a2_7] 32 (0,0)) (by (with_reducible repeat (first|refine kN ?_ _|refine kD ?_|refine kA ?_ _));exact BK157.out) hb)
       have n5_:=Ak (below_step (by repeat (first|(with_reducible first|exact HB.out|apply bA|apply bN|apply bD|refine bS ?_ GE155.out|refine bS ?_ GE156.out|refine bS ?_ GE157.out)|exact HB.out)) hb)
       clear HO162
       clear BK155
       clear BK156
       clear BK157
       clear HB
       have HO162:=n0_
       have HO167:=n1_
       have BK155:=n2_
       have BK156:=n3_
       have BK157:=n4_
       have HB:=n5_
       clear n0_ n1_ n2_ n3_ n4_ n5_
       (try clear hb)
       (try clear hb2)
       (try clear hk)
       (try clear hi)
       (try clear ho0)
       obtain ⟨Ao141,co141,eo141⟩:=Kd.R_slice HO167.out
       (first|subst eo141|(injection eo141 with f1_ f2_ f3_;have f4_:=f1_.symm;have f5_:=f3_.symm;clear f1_ f2_ f3_;subst f4_;subst f5_))
       refine hK.out _ _ ⟨(kC BK155.out 0).trans rfl,(kC BK155.out 1).trans rfl,(kC BK156.out 0).trans rfl,(kC BK156.out 1).trans rfl,(kC BK156.out 2).trans rfl,(kC BK157.out 0).trans rfl,(kC BK157.out 1).trans rfl,(kC BK157.out 2).trans rfl,(kC BK157.out 3).trans rfl,(kC BK157.out 4).trans rfl,(kC BK157.out 5).trans rfl,(kC BK157.out 6).trans rfl,(kC BK157.out 7).trans rfl⟩ (fun hHeld => ?_)
       clear hK K
       refine norm_ (a':=?_) ?_ ?_
       rotate_left
       ·show Act.put _ (some 21) _ = _
        simp only [Act.put,sA,sZ,sS,i64_w,i32_w]
        rfl
       refine one_ (i:=4) (N:=some 24) #[tt,tt,tt,tt,tt,ff,ff,ff,ff,ff] rfl rfl (one_of HT_.out (by kernel_rfl)) (by decide) (fun K hK => ?_)
       refine goes_ Try.func12 (by kernel_rfl) rfl #[.agg #[.int .u64 t164,.slice Ao141 t165.length co141],.agg #[.int .u64 a1_0,.bool a1_1,.int .u64 a1_2],.agg #[.int .u32 a2_0,.int .u64 a2_1,.int .u64 a2_2,.int .i64 a2_3,.int .i64 a2_4,.int .i64 a2_5,.int .i64 a2_6,.int .i64 a2_7]] (by rfl) rfl rfl (by (try simp only [List.map_toArray,List.map_cons,List.map_nil]);first|done|rfl|(simp only [List.length_drop,List.length_take];rfl)) ?_
       with_reducible refine (vision_Sees.calls t164 _ _ t165 a1_0 a1_1 a1_2 a2_0 a2_1 a2_2 a2_3 a2_4 a2_5 a2_6 a2_7 false t169 _ ?side1 ?side2 A17.out).mono ?_
       (case side1 => repeat (first|exact (Kd.R_reads' HO167.out).2.2|(with_reducible refine Kd.C_alloc ?_ _)|(with_reducible refine Kd.C_drewN ?_ _)|(with_reducible refine Kd.C_drew ?_)))
       (case side2 => exact (Kd.R_reads' HO167.out).2.1)
       rintro e w142 ⟨rfl,hb⟩
       refine ⟨_,rfl,?_⟩
       have n0_:=Ak (Kd.R_below (by (with_reducible repeat (first|apply Kd.R_alloc|apply Kd.R_drewN|apply Kd.R_drew));exact HO162.out) hb)
       have n1_:=Ak (Kd.R_below (by (with_reducible repeat (first|apply Kd.R_alloc|apply Kd.R_drewN|apply Kd.R_drew));exact HO167.out) hb)
       have n2_:=Ak (kB (g:=gb155) (o:=.cells #[.int .u64 a0_0,.slice A0_1 l0_1.length c0_1] 25 (0,0)) (by (with_reducible repeat (first|refine kN ?_ _|refine kD ?_|refine kA ?_ _));exact BK155.out) hb)
       have n3_:=Ak (kB (g:=gb156) (o:=.cells #[.int .u64 a1_0,.bool a1_1,.int .u64 a1_2] 27 (0,0)) (by (with_reducible repeat (first|refine kN ?_ _|refine kD ?_|refine kA ?_ _));exact BK156.out) hb)
       have n4_:=Ak (kB (g:=gb157) (o:=.cells #[.int .u32 a2_0,.int .u64 a2_1,.int .u64 a2_2,.int .i64 a2_3,.int .i64 a2_4,.int .i64 a2_5,.int .i64 a2_6,.int .i64 a2_7] 32 (0,0)) (by (with_reducible repeat (first|refine kN ?_ _|refine kD ?_|refine kA ?_ _));exact BK157.out) hb)
       have n5_:=Ak (below_step (by repeat (first|(with_reducible first|exact HB.out|apply bA|apply bN|apply bD|refine bS ?_ GE155.out|refine bS ?_ GE156.out|refine bS ?_ GE157.out)|exact HB.out)) hb)
       clear HO162
       clear HO167
       clear BK155
       clear BK156
       clear BK157
       clear HB
       have HO162:=n0_
       have HO167:=n1_
       have BK155:=n2_
       have BK156:=n3_
       have BK157:=n4_
       have HB:=n5_
       clear n0_ n1_ n2_ n3_ n4_ n5_
       (try clear hb)
       (try clear hb2)
       (try clear hk)
       (try clear hi)
       refine hK.out _ _ ⟨(kC BK155.out 0).trans rfl,(kC BK155.out 1).trans rfl,(kC BK156.out 0).trans rfl,(kC BK156.out 1).trans rfl,(kC BK156.out 2).trans rfl,(kC BK157.out 0).trans rfl,(kC BK157.out 1).trans rfl,(kC BK157.out 2).trans rfl,(kC BK157.out 3).trans rfl,(kC BK157.out 4).trans rfl,(kC BK157.out 5).trans rfl,(kC BK157.out 6).trans rfl,(kC BK157.out 7).trans rfl⟩ (fun hHeld => ?_)
       clear hK K
       refine norm_ (a':=?_) ?_ ?_
       rotate_left
       ·show Act.put _ (some 24) _ = _
        simp only [Act.put,sA,sZ,sS,i64_w,i32_w]
        rfl
       refine pure_ (i:=5) (N:=some 19) (v:=?_) (a':=?_) #[tt,tt,tt,tt,tt,tt,ff,ff,ff,ff] rfl rfl (any_of HT_.out (by kernel_rfl)) (fun _ _ _ h => h) (Or.inl ⟨by rfl,?_⟩) ?_ ?_
       rotate_left
       ·intro w'
        go_simp
        with_reducible rfl
       rotate_left
       ·simp only [Act.put,sA,sZ,sS,i64_w,i32_w]
        rfl
       refine pure_ (i:=6) (N:=some 25) (v:=?_) (a':=?_) #[tt,tt,tt,tt,tt,tt,tt,ff,ff,ff] rfl rfl (any_of HT_.out (by kernel_rfl)) (fun _ _ _ h => h) (Or.inl ⟨by rfl,?_⟩) ?_ ?_
       rotate_left
       ·intro w'
        go_simp
        with_reducible rfl
       rotate_left
       ·simp only [Act.put,sA,sZ,sS,i64_w,i32_w]
        rfl
       refine pure_ (i:=7) (N:=some 26) (v:=?_) (a':=?_) #[tt,tt,tt,tt,tt,tt,tt,tt,ff,ff] rfl rfl (any_of HT_.out (by kernel_rfl)) (fun _ _ _ h => h) (Or.inl ⟨by rfl,?_⟩) ?_ ?_
       rotate_left
       ·intro w'
        go_simp
        with_reducible rfl
       rotate_left
       ·simp only [Act.put,sA,sZ,sS,i64_w,i32_w]
        rfl
       refine pure_ (i:=8) (N:=some 8) (v:=?_) (a':=?_) #[tt,tt,tt,tt,tt,tt,tt,tt,tt,ff] rfl rfl (any_of HT_.out (by kernel_rfl)) (fun _ _ _ h => h) (Or.inl ⟨by rfl,?_⟩) ?_ ?_
       rotate_left
       ·intro w'
        go_simp
        with_reducible rfl
       rotate_left
       ·simp only [Act.put,sA,sZ,sS,i64_w,i32_w]
        rfl
       refine pure_ (i:=9) (N:=some 9) (v:=?_) (a':=?_) #[tt,tt,tt,tt,tt,tt,tt,tt,tt,tt] rfl rfl (any_of HT_.out (by kernel_rfl)) (fun _ _ _ h => h) (Or.inl ⟨by rfl,?_⟩) ?_ ?_
       rotate_left
       ·intro w'
        go_simp
        with_reducible rfl
       rotate_left
       ·simp only [Act.put,sA,sZ,sS,i64_w,i32_w]
        rfl
       refine done_ (done_of HT_.out (by kernel_rfl)) ?_
       have hcz143_0 : w142.cell? ⟨gb155,0,none⟩ = some (.int .u64 a0_0):=(kC BK155.out 0).trans rfl
       have hcz143_1 : w142.cell? ⟨gb155,1,none⟩ = some (.slice A0_1 l0_1.length c0_1):=(kC BK155.out 1).trans rfl
       have hfz143_0:=blk_frozen BK155.out 0
       have hfz143_1:=blk_frozen BK155.out 1
       try go_wp2_with (first|((with_reducible refine gate_callee (f:=13) rfl ?_);refine goesL_ (some 28) rfl rfl Try.func13 (by kernel_rfl) rfl #[.agg #[.int .u64 a0_0,.slice A0_1 l0_1.length c0_1]] rfl (by (try simp only [List.map_toArray,List.map_cons,List.map_nil]);first|done|rfl|(simp only [List.length_drop,List.length_take];rfl)) ?_;(with_reducible refine (gazetteerref17_Right.calls k a0_0 _ _ l0_1 false _ ?side1 ?side2 A18.out).mono ?_);(case side1 => repeat (first|exact (Kd.C_below HR0_1.out HB.out)|(with_reducible refine Kd.C_alloc ?_ _)|(with_reducible refine Kd.C_drewN ?_ _)|(with_reducible refine Kd.C_drew ?_)));(case side2 => exact HC0_1.out);rintro e w144 ⟨rfl,hb⟩;refine ⟨_,rfl,?_⟩;have n0_:=Ak (Kd.R_below (by (with_reducible repeat (first|apply Kd.R_alloc|apply Kd.R_drewN|apply Kd.R_drew));exact HO162.out) hb);have n1_:=Ak (Kd.R_below (by (with_reducible repeat (first|apply Kd.R_alloc|apply Kd.R_drewN|apply Kd.R_drew));exact HO167.out) hb);have n2_:=Ak (kB (g:=gb155) (o:=.cells #[.int .u64 a0_0,.slice A0_1 l0_1.length c0_1] 25 (0,0)) (by (with_reducible repeat (first|refine kN ?_ _|refine kD ?_|refine kA ?_ _));exact BK155.out) hb);have n3_:=Ak (kB (g:=gb156) (o:=.cells #[.int .u64 a1_0,.bool a1_1,.int .u64 a1_2] 27 (0,0)) (by (with_reducible repeat (first|refine kN ?_ _|refine kD ?_|refine kA ?_ _));exact BK156.out) hb);have n4_:=Ak (kB (g:=gb157) (o:=.cells #[.int .u32 a2_0,.int .u64 a2_1,.int .u64 a2_2,.int .i64 a2_3,.int .i64 a2_4,.int .i64 a2_5,.int .i64 a2_6,.int .i64 a2_7] 32 (0,0)) (by (with_reducible repeat (first|refine kN ?_ _|refine kD ?_|refine kA ?_ _));exact BK157.out) hb);have n5_:=Ak (below_step (by repeat (first|(with_reducible first|exact HB.out|apply bA|apply bN|apply bD|refine bS ?_ GE155.out|refine bS ?_ GE156.out|refine bS ?_ GE157.out)|exact HB.out)) hb);clear HO162;clear HO167;clear BK155;clear BK156;clear BK157;clear HB;have HO162:=n0_;have HO167:=n1_;have BK155:=n2_;have BK156:=n3_;have BK157:=n4_;have HB:=n5_;clear n0_ n1_ n2_ n3_ n4_ n5_;(try clear hb);(try clear hb2);(try clear hk);(try clear hi)))
       have n0_:=Ak (Kd.R_drew HO162.out)
       have n1_:=Ak (Kd.R_drew HO167.out)
       have n2_:=Ak (kD BK155.out)
       have n3_:=Ak (kD BK156.out)
       have n4_:=Ak (kD BK157.out)
       have n5_:=Ak (bD HB.out)
       clear HO162
       clear HO167
       clear BK155
       clear BK156
       clear BK157
       clear HB
       have HO162:=n0_
       have HO167:=n1_
       have BK155:=n2_
       have BK156:=n3_
       have BK157:=n4_
       have HB:=n5_
       clear n0_ n1_ n2_ n3_ n4_ n5_
       refine start_ (n:=20) (S:=fun w' => True) (ds:=[]) #[ff,ff,ff,ff,ff,ff,ff,ff,ff,ff,ff,ff,ff,ff,ff,ff,ff,ff,ff,ff] (by kernel_rfl) rfl rfl trivial (fun hHeld => ?_);refine with_tabW gazetteerlaw17_VisionCounts.tab8 gazetteerlaw17_VisionCounts.bits8 (fun HT_ HW_ => ?_)
       generalize w144.drew = w145 at HO162 HO167 BK155 BK156 BK157 HB hHeld ⊢
       refine pure_ (i:=0) (N:=some 30) (v:=?_) (a':=?_) #[tt,ff,ff,ff,ff,ff,ff,ff,ff,ff,ff,ff,ff,ff,ff,ff,ff,ff,ff,ff] rfl rfl (any_of HT_.out (by kernel_rfl)) (fun _ _ _ h => h) (Or.inl ⟨by rfl,?_⟩) ?_ ?_
       rotate_left
       ·intro w'
        go_simp
        with_reducible rfl
       rotate_left
       ·simp only [Act.put,sA,sZ,sS,i64_w,i32_w]
        rfl
       refine pure_ (i:=1) (N:=some 31) (v:=?_) (a':=?_) #[tt,tt,ff,ff,ff,ff,ff,ff,ff,ff,ff,ff,ff,ff,ff,ff,ff,ff,ff,ff] rfl rfl (any_of HT_.out (by kernel_rfl)) (fun _ _ _ h => h) (Or.inl ⟨by rfl,?_⟩) ?_ ?_
       rotate_left
       ·intro w'
        go_simp
        with_reducible rfl
       rotate_left
       ·simp only [Act.put,sA,sZ,sS,i64_w,i32_w]
        rfl
       refine pure_ (i:=2) (N:=some 32) (v:=?_) (a':=?_) #[tt,tt,tt,ff,ff,ff,ff,ff,ff,ff,ff,ff,ff,ff,ff,ff,ff,ff,ff,ff] rfl rfl (any_of HT_.out (by kernel_rfl)) (fun _ _ _ h => h) (Or.inl ⟨by rfl,?_⟩) ?_ ?_
       rotate_left
       ·intro w'
        go_simp
        with_reducible rfl
       rotate_left
       ·simp only [Act.put,sA,sZ,sS,i64_w,i32_w]
        rfl
       refine pure_ (i:=3) (N:=some 33) (v:=?_) (a':=?_) #[tt,tt,tt,tt,ff,ff,ff,ff,ff,ff,ff,ff,ff,ff,ff,ff,ff,ff,ff,ff] rfl rfl (any_of HT_.out (by kernel_rfl)) (fun _ _ _ h => h) (Or.inl ⟨by rfl,?_⟩) ?_ ?_
       rotate_left
       ·intro w'
        go_simp
        with_reducible rfl
       rotate_left
       ·simp only [Act.put,sA,sZ,sS,i64_w,i32_w]
        rfl
       refine pure_ (i:=4) (N:=some 34) (v:=?_) (a':=?_) #[tt,tt,tt,tt,tt,ff,ff,ff,ff,ff,ff,ff,ff,ff,ff,ff,ff,ff,ff,ff] rfl rfl (any_of HT_.out (by kernel_rfl)) (fun _ _ _ h => h) (Or.inl ⟨by rfl,?_⟩) ?_ ?_
       rotate_left
       ·intro w'
        go_simp
        with_reducible rfl
       rotate_left
       ·simp only [Act.put,sA,sZ,sS,i64_w,i32_w]
        rfl
       refine pure_ (i:=5) (N:=some 35) (v:=?_) (a':=?_) #[tt,tt,tt,tt,tt,tt,ff,ff,ff,ff,ff,ff,ff,ff,ff,ff,ff,ff,ff,ff] rfl rfl (any_of HT_.out (by kernel_rfl)) (fun _ _ _ h => h) (Or.inl ⟨by rfl,?_⟩) ?_ ?_
       rotate_left
       ·intro w'
        go_simp
        with_reducible rfl
       rotate_left
       ·simp only [Act.put,sA,sZ,sS,i64_w,i32_w]
        rfl
       refine pure_ (i:=6) (N:=some 36) (v:=?_) (a':=?_) #[tt,tt,tt,tt,tt,tt,tt,ff,ff,ff,ff,ff,ff,ff,ff,ff,ff,ff,ff,ff] rfl rfl (any_of HT_.out (by kernel_rfl)) (fun _ _ _ h => h) (Or.inl ⟨by rfl,?_⟩) ?_ ?_
       rotate_left
       ·intro w'
        go_simp
        with_reducible rfl
       rotate_left
       ·simp only [Act.put,sA,sZ,sS,i64_w,i32_w]
        rfl
       refine pure_ (i:=7) (N:=some 37) (v:=?_) (a':=?_) #[tt,tt,tt,tt,tt,tt,tt,tt,ff,ff,ff,ff,ff,ff,ff,ff,ff,ff,ff,ff] rfl rfl (any_of HT_.out (by kernel_rfl)) (fun _ _ _ h => h) (Or.inl ⟨by rfl,?_⟩) ?_ ?_
       rotate_left
       ·intro w'
        go_simp
        with_reducible rfl
       rotate_left
       ·simp only [Act.put,sA,sZ,sS,i64_w,i32_w]
        rfl
       refine pure_ (i:=8) (N:=some 38) (v:=?_) (a':=?_) #[tt,tt,tt,tt,tt,tt,tt,tt,tt,ff,ff,ff,ff,ff,ff,ff,ff,ff,ff,ff] rfl rfl (any_of HT_.out (by kernel_rfl)) (fun _ _ _ h => h) (Or.inl ⟨by rfl,?_⟩) ?_ ?_
       rotate_left
       ·intro w'
        go_simp
        with_reducible rfl
       rotate_left
       ·simp only [Act.put,sA,sZ,sS,i64_w,i32_w]
        rfl
       refine pure_ (i:=9) (N:=some 39) (v:=?_) (a':=?_) #[tt,tt,tt,tt,tt,tt,tt,tt,tt,tt,ff,ff,ff,ff,ff,ff,ff,ff,ff,ff] rfl rfl (any_of HT_.out (by kernel_rfl)) (fun _ _ _ h => h) (Or.inl ⟨by rfl,?_⟩) ?_ ?_
       rotate_left
       ·intro w'
        go_simp
        with_reducible rfl
       rotate_left
       ·simp only [Act.put,sA,sZ,sS,i64_w,i32_w]
        rfl
       refine pure_ (i:=10) (N:=some 40) (v:=?_) (a':=?_) #[tt,tt,tt,tt,tt,tt,tt,tt,tt,tt,tt,ff,ff,ff,ff,ff,ff,ff,ff,ff] rfl rfl (any_of HT_.out (by kernel_rfl)) (fun _ _ _ h => h) (Or.inl ⟨by rfl,?_⟩) ?_ ?_
       rotate_left
       ·intro w'
        go_simp
        with_reducible rfl
       rotate_left
       ·simp only [Act.put,sA,sZ,sS,i64_w,i32_w]
        rfl
       refine pure_ (i:=11) (N:=some 41) (v:=undef) (a':=?_) #[tt,tt,tt,tt,tt,tt,tt,tt,tt,tt,tt,tt,ff,ff,ff,ff,ff,ff,ff,ff] rfl rfl (any_of HT_.out (by kernel_rfl)) (fun _ _ _ h => h) (Or.inr ⟨by rfl,rfl⟩) ?_ ?_
       rotate_left
       ·simp only [Act.put,sA,sZ,sS,i64_w,i32_w]
        rfl
       refine pure_ (i:=12) (N:=some 42) (v:=undef) (a':=?_) #[tt,tt,tt,tt,tt,tt,tt,tt,tt,tt,tt,tt,tt,ff,ff,ff,ff,ff,ff,ff] rfl rfl (any_of HT_.out (by kernel_rfl)) (fun _ _ _ h => h) (Or.inr ⟨by rfl,rfl⟩) ?_ ?_
       rotate_left
       ·simp only [Act.put,sA,sZ,sS,i64_w,i32_w]
        rfl
       refine pure_ (i:=13) (N:=some 43) (v:=undef) (a':=?_) #[tt,tt,tt,tt,tt,tt,tt,tt,tt,tt,tt,tt,tt,tt,ff,ff,ff,ff,ff,ff] rfl rfl (any_of HT_.out (by kernel_rfl)) (fun _ _ _ h => h) (Or.inr ⟨by rfl,rfl⟩) ?_ ?_
       rotate_left
       ·simp only [Act.put,sA,sZ,sS,i64_w,i32_w]
        rfl
       refine pure_ (i:=14) (N:=some 44) (v:=undef) (a':=?_) #[tt,tt,tt,tt,tt,tt,tt,tt,tt,tt,tt,tt,tt,tt,tt,ff,ff,ff,ff,ff] rfl rfl (any_of HT_.out (by kernel_rfl)) (fun _ _ _ h => h) (Or.inr ⟨by rfl,rfl⟩) ?_ ?_
       rotate_left
       ·simp only [Act.put,sA,sZ,sS,i64_w,i32_w]
        rfl
       refine pure_ (i:=15) (N:=some 45) (v:=undef) (a':=?_) #[tt,tt,tt,tt,tt,tt,tt,tt,tt,tt,tt,tt,tt,tt,tt,tt,ff,ff,ff,ff] rfl rfl (any_of HT_.out (by kernel_rfl)) (fun _ _ _ h => h) (Or.inr ⟨by rfl,rfl⟩) ?_ ?_
       rotate_left
       ·simp only [Act.put,sA,sZ,sS,i64_w,i32_w]
        rfl
       refine pure_ (i:=16) (N:=some 46) (v:=undef) (a':=?_) #[tt,tt,tt,tt,tt,tt,tt,tt,tt,tt,tt,tt,tt,tt,tt,tt,tt,ff,ff,ff] rfl rfl (any_of HT_.out (by kernel_rfl)) (fun _ _ _ h => h) (Or.inr ⟨by rfl,rfl⟩) ?_ ?_
       rotate_left
       ·simp only [Act.put,sA,sZ,sS,i64_w,i32_w]
        rfl
       refine pure_ (i:=17) (N:=some 47) (v:=undef) (a':=?_) #[tt,tt,tt,tt,tt,tt,tt,tt,tt,tt,tt,tt,tt,tt,tt,tt,tt,tt,ff,ff] rfl rfl (any_of HT_.out (by kernel_rfl)) (fun _ _ _ h => h) (Or.inr ⟨by rfl,rfl⟩) ?_ ?_
       rotate_left
       ·simp only [Act.put,sA,sZ,sS,i64_w,i32_w]
        rfl
       refine pure_ (i:=18) (N:=some 48) (v:=?_) (a':=?_) #[tt,tt,tt,tt,tt,tt,tt,tt,tt,tt,tt,tt,tt,tt,tt,tt,tt,tt,tt,ff] rfl rfl (any_of HT_.out (by kernel_rfl)) (fun _ _ _ h => h) (Or.inl ⟨by rfl,?_⟩) ?_ ?_
       rotate_left
       ·intro w'
        go_simp
        with_reducible rfl
       rotate_left
       ·simp only [Act.put,sA,sZ,sS,i64_w,i32_w]
        rfl
       refine pure_ (i:=19) (N:=some 6) (v:=?_) (a':=?_) #[tt,tt,tt,tt,tt,tt,tt,tt,tt,tt,tt,tt,tt,tt,tt,tt,tt,tt,tt,tt] rfl rfl (any_of HT_.out (by kernel_rfl)) (fun _ _ _ h => h) (Or.inl ⟨by rfl,?_⟩) ?_ ?_
       rotate_left
       ·intro w'
        go_simp
        with_reducible rfl
       rotate_left
       ·simp only [Act.put,sA,sZ,sS,i64_w,i32_w]
        rfl
       refine done_ (done_of HT_.out (by kernel_rfl)) ?_
       try go_wp2
       go_ret
       exact ⟨by first|rfl|(simp [errW_none,errW_some] <;> rfl)|(simp [*,errW_none,errW_some] <;> rfl),by repeat (first|(with_reducible first|exact HB.out|apply bA|apply bN|apply bD|refine bS ?_ GE155.out|refine bS ?_ GE156.out|refine bS ?_ GE157.out)|exact HB.out)⟩
    ·rw [if_neg c87] at H
     have c87b0 : (t163 == 270) = false:=beq_eq_false_iff_ne.mpr c87
     have c87b1 : (t163 != 270) = true:=bne_iff_ne.mpr c87
     obtain rfl:=Option.some.inj H
     go_enter Try.func3,Try.ntmps3
     try go_wp2_with (first|((with_reducible refine gate_dst (N:=3) rfl ?_);refine box_event ?hg (N:=3) ?hd (cs:=#[.int .u64 a0_0,.slice A0_1 l0_1.length c0_1]) (t:=25) ?hr ?_;(case hd => rfl);(case hg => rfl);(case hr => first|(go_simp;done)|(go_simp;rfl));intro gb155 hg w146 hbox hb;have n0_:=Ak (below_step (by repeat (first|(with_reducible first|exact HB.out|apply bA|apply bN|apply bD)|exact HB.out)) hb);have n1_:=Ak (hbox);have n2_:=Ak ((by rw [hg];exact (below_size (by repeat (first|(with_reducible first|exact HB.out|apply bA|apply bN|apply bD)|exact HB.out))) : w.heap.size ≤ gb155));have n3_:=Ak ((by rw [hg];exact (below_size (by repeat (first|(with_reducible first|exact HB.out|apply bA|apply bN|apply bD)|exact HB.out))) : w.heap.size ≤ gb155));clear HB;have HB:=n0_;have BK155:=n1_;have GW155:=n2_;have GE155:=n3_;clear n0_ n1_ n2_ n3_;clear hb hbox hg)|((with_reducible refine gate_dst (N:=4) rfl ?_);refine box_event ?hg (N:=4) ?hd (cs:=#[.int .u64 a1_0,.bool a1_1,.int .u64 a1_2]) (t:=27) ?hr ?_;(case hd => rfl);(case hg => rfl);(case hr => first|(go_simp;done)|(go_simp;rfl));intro gb156 hg w147 hbox hb;have n0_:=Ak (kB (g:=gb155) (o:=.cells #[.int .u64 a0_0,.slice A0_1 l0_1.length c0_1] 25 (0,0)) (by (with_reducible repeat (first|refine kN ?_ _|refine kD ?_|refine kA ?_ _));exact BK155.out) hb);have n1_:=Ak (below_step (by repeat (first|(with_reducible first|exact HB.out|apply bA|apply bN|apply bD|refine bS ?_ GE155.out)|exact HB.out)) hb);have n2_:=Ak (hbox);have n3_:=Ak ((by rw [hg];exact (below_size (by repeat (first|(with_reducible first|exact HB.out|apply bA|apply bN|apply bD|refine bS ?_ GE155.out)|exact HB.out))) : w.heap.size ≤ gb156));have n4_:=Ak ((by rw [hg];exact (below_size (by repeat (first|(with_reducible first|exact HB.out|apply bA|apply bN|apply bD|refine bS ?_ GE155.out)|exact HB.out))) : w.heap.size ≤ gb156));have n5_:=Ak ((by rw [hg];exact Nat.ne_of_lt (blk_lt (g:=gb155) (o:=.cells #[.int .u64 a0_0,.slice A0_1 l0_1.length c0_1] 25 (0,0)) (by (with_reducible repeat (first|refine kN ?_ _|refine kD ?_|refine kA ?_ _));exact BK155.out)) : gb155 ≠ gb156));have n6_:=Ak ((by rw [hg];exact Nat.ne_of_gt (blk_lt (g:=gb155) (o:=.cells #[.int .u64 a0_0,.slice A0_1 l0_1.length c0_1] 25 (0,0)) (by (with_reducible repeat (first|refine kN ?_ _|refine kD ?_|refine kA ?_ _));exact BK155.out)) : gb156 ≠ gb155));clear BK155;clear HB;have BK155:=n0_;have HB:=n1_;have BK156:=n2_;have GW156:=n3_;have GE156:=n4_;have NB155_156:=n5_;have NB156_155:=n6_;clear n0_ n1_ n2_ n3_ n4_ n5_ n6_;clear hb hbox hg)|((with_reducible refine gate_dst (N:=5) rfl ?_);refine box_event ?hg (N:=5) ?hd (cs:=#[.int .u32 a2_0,.int .u64 a2_1,.int .u64 a2_2,.int .i64 a2_3,.int .i64 a2_4,.int .i64 a2_5,.int .i64 a2_6,.int .i64 a2_7]) (t:=32) ?hr ?_;(case hd => rfl);(case hg => rfl);(case hr => first|(go_simp;done)|(go_simp;rfl));intro gb157 hg w148 hbox hb;have n0_:=Ak (kB (g:=gb155) (o:=.cells #[.int .u64 a0_0,.slice A0_1 l0_1.length c0_1] 25 (0,0)) (by (with_reducible repeat (first|refine kN ?_ _|refine kD ?_|refine kA ?_ _));exact BK155.out) hb);have n1_:=Ak (kB (g:=gb156) (o:=.cells #[.int .u64 a1_0,.bool a1_1,.int .u64 a1_2] 27 (0,0)) (by (with_reducible repeat (first|refine kN ?_ _|refine kD ?_|refine kA ?_ _));exact BK156.out) hb);have n2_:=Ak (below_step (by repeat (first|(with_reducible first|exact HB.out|apply bA|apply bN|apply bD|refine bS ?_ GE155.out|refine bS ?_ GE156.out)|exact HB.out)) hb);have n3_:=Ak (hbox);have n4_:=Ak ((by rw [hg];exact (below_size (by repeat (first|(with_reducible first|exact HB.out|apply bA|apply bN|apply bD|refine bS ?_ GE155.out|refine bS ?_ GE156.out)|exact HB.out))) : w.heap.size ≤ gb157));have n5_:=Ak ((by rw [hg];exact (below_size (by repeat (first|(with_reducible first|exact HB.out|apply bA|apply bN|apply bD|refine bS ?_ GE155.out|refine bS ?_ GE156.out)|exact HB.out))) : w.heap.size ≤ gb157));have n6_:=Ak ((by rw [hg];exact Nat.ne_of_lt (blk_lt (g:=gb155) (o:=.cells #[.int .u64 a0_0,.slice A0_1 l0_1.length c0_1] 25 (0,0)) (by (with_reducible repeat (first|refine kN ?_ _|refine kD ?_|refine kA ?_ _));exact BK155.out)) : gb155 ≠ gb157));have n7_:=Ak ((by rw [hg];exact Nat.ne_of_gt (blk_lt (g:=gb155) (o:=.cells #[.int .u64 a0_0,.slice A0_1 l0_1.length c0_1] 25 (0,0)) (by (with_reducible repeat (first|refine kN ?_ _|refine kD ?_|refine kA ?_ _));exact BK155.out)) : gb157 ≠ gb155));have n8_:=Ak ((by rw [hg];exact Nat.ne_of_lt (blk_lt (g:=gb156) (o:=.cells #[.int .u64 a1_0,.bool a1_1,.int .u64 a1_2] 27 (0,0)) (by (with_reducible repeat (first|refine kN ?_ _|refine kD ?_|refine kA ?_ _));exact BK156.out)) : gb156 ≠ gb157));have n9_:=Ak ((by rw [hg];exact Nat.ne_of_gt (blk_lt (g:=gb156) (o:=.cells #[.int .u64 a1_0,.bool a1_1,.int .u64 a1_2] 27 (0,0)) (by (with_reducible repeat (first|refine kN ?_ _|refine kD ?_|refine kA ?_ _));exact BK156.out)) : gb157 ≠ gb156));clear BK155;clear BK156;clear HB;have BK155:=n0_;have BK156:=n1_;have HB:=n2_;have BK157:=n3_;have GW157:=n4_;have GE157:=n5_;have NB155_157:=n6_;have NB157_155:=n7_;have NB156_157:=n8_;have NB157_156:=n9_;clear n0_ n1_ n2_ n3_ n4_ n5_ n6_ n7_ n8_ n9_;clear hb hbox hg)|((with_reducible refine gate_callee (f:=9) rfl ?_);refine goesL_ (some 10) rfl rfl Try.func9 (by kernel_rfl) rfl #[] rfl (by (try simp only [List.map_toArray,List.map_cons,List.map_nil]);first|done|rfl|(simp only [List.length_drop,List.length_take];rfl)) ?_;(with_reducible refine (gazetteerlaw17_wakes.calls  true _ A4.out).mono ?_);rintro e w149 ⟨rfl,hb⟩;refine ⟨_,rfl,?_⟩;have n0_:=Ak (kB (g:=gb155) (o:=.cells #[.int .u64 a0_0,.slice A0_1 l0_1.length c0_1] 25 (0,0)) (by (with_reducible repeat (first|refine kN ?_ _|refine kD ?_|refine kA ?_ _));exact BK155.out) hb);have n1_:=Ak (kB (g:=gb156) (o:=.cells #[.int .u64 a1_0,.bool a1_1,.int .u64 a1_2] 27 (0,0)) (by (with_reducible repeat (first|refine kN ?_ _|refine kD ?_|refine kA ?_ _));exact BK156.out) hb);have n2_:=Ak (kB (g:=gb157) (o:=.cells #[.int .u32 a2_0,.int .u64 a2_1,.int .u64 a2_2,.int .i64 a2_3,.int .i64 a2_4,.int .i64 a2_5,.int .i64 a2_6,.int .i64 a2_7] 32 (0,0)) (by (with_reducible repeat (first|refine kN ?_ _|refine kD ?_|refine kA ?_ _));exact BK157.out) hb);have n3_:=Ak (below_step (by repeat (first|(with_reducible first|exact HB.out|apply bA|apply bN|apply bD|refine bS ?_ GE155.out|refine bS ?_ GE156.out|refine bS ?_ GE157.out)|exact HB.out)) hb);clear BK155;clear BK156;clear BK157;clear HB;have BK155:=n0_;have BK156:=n1_;have BK157:=n2_;have HB:=n3_;clear n0_ n1_ n2_ n3_;(try clear hb);(try clear hb2);(try clear hk);(try clear hi);have hnb150:=NB155_156.out;have hnc150:=NB156_155.out;have hnb151:=NB155_157.out;have hnc151:=NB157_155.out;have hcz152_0 : w149.cell? ⟨gb155,0,none⟩ = some (.int .u64 a0_0):=(kC BK155.out 0).trans rfl;have hcz152_1 : w149.cell? ⟨gb155,1,none⟩ = some (.slice A0_1 l0_1.length c0_1):=(kC BK155.out 1).trans rfl;have hfz152_0:=blk_frozen BK155.out 0;have hfz152_1:=blk_frozen BK155.out 1)|((with_reducible refine gate_callee (f:=11) rfl ?_);refine goesL_ (some 17) rfl rfl Try.func11 (by kernel_rfl) rfl #[.agg #[.int .u64 a0_0,.slice A0_1 l0_1.length c0_1]] rfl (by (try simp only [List.map_toArray,List.map_cons,List.map_nil]);first|done|rfl|(simp only [List.length_drop,List.length_take];rfl)) ?_;(with_reducible refine (gazetteerlaw17_copied.calls a0_0 _ _ l0_1 t159 t160 _ ?side1 ?side2 A14.out).mono ?_);(case side1 => repeat (first|exact (Kd.C_below HR0_1.out HB.out)|(with_reducible refine Kd.C_alloc ?_ _)|(with_reducible refine Kd.C_drewN ?_ _)|(with_reducible refine Kd.C_drew ?_)));(case side2 => exact HC0_1.out);rintro e w153 ⟨v161,rfl,ho0,hb⟩;refine ⟨_,rfl,?_⟩;have n0_:=Ak (Kd.R_lower ho0 (below_size (by repeat (first|(with_reducible first|exact HB.out|apply bA|apply bN|apply bD|refine bS ?_ GE155.out|refine bS ?_ GE156.out|refine bS ?_ GE157.out)|exact HB.out))));have n1_:=Ak (kB (g:=gb155) (o:=.cells #[.int .u64 a0_0,.slice A0_1 l0_1.length c0_1] 25 (0,0)) (by (with_reducible repeat (first|refine kN ?_ _|refine kD ?_|refine kA ?_ _));exact BK155.out) hb);have n2_:=Ak (kB (g:=gb156) (o:=.cells #[.int .u64 a1_0,.bool a1_1,.int .u64 a1_2] 27 (0,0)) (by (with_reducible repeat (first|refine kN ?_ _|refine kD ?_|refine kA ?_ _));exact BK156.out) hb);have n3_:=Ak (kB (g:=gb157) (o:=.cells #[.int .u32 a2_0,.int .u64 a2_1,.int .u64 a2_2,.int .i64 a2_3,.int .i64 a2_4,.int .i64 a2_5,.int .i64 a2_6,.int .i64 a2_7] 32 (0,0)) (by (with_reducible repeat (first|refine kN ?_ _|refine kD ?_|refine kA ?_ _));exact BK157.out) hb);have n4_:=Ak (below_step (by repeat (first|(with_reducible first|exact HB.out|apply bA|apply bN|apply bD|refine bS ?_ GE155.out|refine bS ?_ GE156.out|refine bS ?_ GE157.out)|exact HB.out)) hb);clear BK155;clear BK156;clear BK157;clear HB;have HO162:=n0_;have BK155:=n1_;have BK156:=n2_;have BK157:=n3_;have HB:=n4_;clear n0_ n1_ n2_ n3_ n4_;(try clear hb);(try clear hb2);(try clear hk);(try clear hi);(try clear ho0);obtain ⟨Ao154,co154,eo154⟩:=Kd.R_slice HO162.out;subst eo154)|((with_reducible refine gate_callee (f:=10) rfl ?_);refine goesL_ (some 18) rfl rfl Try.func10 (by kernel_rfl) rfl #[.agg #[.int .u64 t159,.slice Ao154 t160.length co154]] rfl (by (try simp only [List.map_toArray,List.map_cons,List.map_nil]);first|done|rfl|(simp only [List.length_drop,List.length_take];rfl)) ?_;(with_reducible refine (vision_Check.calls t159 _ _ t160 t163 _ ?side1 ?side2 A15.out).mono ?_);(case side1 => repeat (first|exact (Kd.R_reads' HO162.out).2.2|(with_reducible refine Kd.C_alloc ?_ _)|(with_reducible refine Kd.C_drewN ?_ _)|(with_reducible refine Kd.C_drew ?_)));(case side2 => exact (Kd.R_reads' HO162.out).2.1);rintro e w155 ⟨rfl,hb⟩;refine ⟨_,rfl,?_⟩;have n0_:=Ak (Kd.R_below (by (with_reducible repeat (first|apply Kd.R_alloc|apply Kd.R_drewN|apply Kd.R_drew));exact HO162.out) hb);have n1_:=Ak (kB (g:=gb155) (o:=.cells #[.int .u64 a0_0,.slice A0_1 l0_1.length c0_1] 25 (0,0)) (by (with_reducible repeat (first|refine kN ?_ _|refine kD ?_|refine kA ?_ _));exact BK155.out) hb);have n2_:=Ak (kB (g:=gb156) (o:=.cells #[.int .u64 a1_0,.bool a1_1,.int .u64 a1_2] 27 (0,0)) (by (with_reducible repeat (first|refine kN ?_ _|refine kD ?_|refine kA ?_ _));exact BK156.out) hb);have n3_:=Ak (kB (g:=gb157) (o:=.cells #[.int .u32 a2_0,.int .u64 a2_1,.int .u64 a2_2,.int .i64 a2_3,.int .i64 a2_4,.int .i64 a2_5,.int .i64 a2_6,.int .i64 a2_7] 32 (0,0)) (by (with_reducible repeat (first|refine kN ?_ _|refine kD ?_|refine kA ?_ _));exact BK157.out) hb);have n4_:=Ak (below_step (by repeat (first|(with_reducible first|exact HB.out|apply bA|apply bN|apply bD|refine bS ?_ GE155.out|refine bS ?_ GE156.out|refine bS ?_ GE157.out)|exact HB.out)) hb);clear HO162;clear BK155;clear BK156;clear BK157;clear HB;have HO162:=n0_;have BK155:=n1_;have BK156:=n2_;have BK157:=n3_;have HB:=n4_;clear n0_ n1_ n2_ n3_ n4_;(try clear hb);(try clear hb2);(try clear hk);(try clear hi)))
     have n0_:=Ak (Kd.R_drew HO162.out)
     have n1_:=Ak (kD BK155.out)
     have n2_:=Ak (kD BK156.out)
     have n3_:=Ak (kD BK157.out)
     have n4_:=Ak (bD HB.out)
     clear HO162
     clear BK155
     clear BK156
     clear BK157
     clear HB
     have HO162:=n0_
     have BK155:=n1_
     have BK156:=n2_
     have BK157:=n3_
     have HB:=n4_
     clear n0_ n1_ n2_ n3_ n4_
     refine start_ (n:=10) (S:=fun w' => w'.cell? ⟨gb155,0,none⟩ = some (.int .u64 a0_0)∧w'.cell? ⟨gb155,1,none⟩ = some (.slice A0_1 l0_1.length c0_1)∧w'.cell? ⟨gb156,0,none⟩ = some (.int .u64 a1_0)∧w'.cell? ⟨gb156,1,none⟩ = some (.bool a1_1)∧w'.cell? ⟨gb156,2,none⟩ = some (.int .u64 a1_2)∧w'.cell? ⟨gb157,0,none⟩ = some (.int .u32 a2_0)∧w'.cell? ⟨gb157,1,none⟩ = some (.int .u64 a2_1)∧w'.cell? ⟨gb157,2,none⟩ = some (.int .u64 a2_2)∧w'.cell? ⟨gb157,3,none⟩ = some (.int .i64 a2_3)∧w'.cell? ⟨gb157,4,none⟩ = some (.int .i64 a2_4)∧w'.cell? ⟨gb157,5,none⟩ = some (.int .i64 a2_5)∧w'.cell? ⟨gb157,6,none⟩ = some (.int .i64 a2_6)∧w'.cell? ⟨gb157,7,none⟩ = some (.int .i64 a2_7)) (ds:=[]) #[ff,ff,ff,ff,ff,ff,ff,ff,ff,ff] (by kernel_rfl) rfl rfl ⟨(kC BK155.out 0).trans rfl,(kC BK155.out 1).trans rfl,(kC BK156.out 0).trans rfl,(kC BK156.out 1).trans rfl,(kC BK156.out 2).trans rfl,(kC BK157.out 0).trans rfl,(kC BK157.out 1).trans rfl,(kC BK157.out 2).trans rfl,(kC BK157.out 3).trans rfl,(kC BK157.out 4).trans rfl,(kC BK157.out 5).trans rfl,(kC BK157.out 6).trans rfl,(kC BK157.out 7).trans rfl⟩ (fun hHeld => ?_);refine with_tabW gazetteerlaw17_VisionCounts.tab6 gazetteerlaw17_VisionCounts.bits6 (fun HT_ HW_ => ?_)
     generalize w155.drew = w156 at HO162 BK155 BK156 BK157 HB hHeld ⊢
     refine take_ (i:=0) (N:=some 20) (v:=?_) (a':=?_) #[tt,ff,ff,ff,ff,ff,ff,ff,ff,ff] rfl rfl (take_ofW HT_.out HW_.out (by kernel_rfl)) (fun _ _ _ h => h) (Or.inl ⟨by rfl,?_⟩) hHeld ?_ ?_
     rotate_left
     ·rintro w' ⟨s0,s1,s2,s3,s4,s5,s6,s7,s8,s9,s10,s11,s12⟩
      go_simp
      with_reducible rfl
     rotate_left
     ·simp only [Act.put,sA,sZ,sS,i64_w,i32_w]
      rfl
     refine take_ (i:=2) (N:=some 22) (v:=?_) (a':=?_) #[tt,ff,tt,ff,ff,ff,ff,ff,ff,ff] rfl rfl (take_ofW HT_.out HW_.out (by kernel_rfl)) (fun _ _ _ h => h) (Or.inl ⟨by rfl,?_⟩) hHeld ?_ ?_
     rotate_left
     ·rintro w' ⟨s0,s1,s2,s3,s4,s5,s6,s7,s8,s9,s10,s11,s12⟩
      go_simp
      with_reducible rfl
     rotate_left
     ·simp only [Act.put,sA,sZ,sS,i64_w,i32_w]
      rfl
     refine take_ (i:=3) (N:=some 23) (v:=?_) (a':=?_) #[tt,ff,tt,tt,ff,ff,ff,ff,ff,ff] rfl rfl (take_ofW HT_.out HW_.out (by kernel_rfl)) (fun _ _ _ h => h) (Or.inl ⟨by rfl,?_⟩) hHeld ?_ ?_
     rotate_left
     ·rintro w' ⟨s0,s1,s2,s3,s4,s5,s6,s7,s8,s9,s10,s11,s12⟩
      go_simp
      with_reducible rfl
     rotate_left
     ·simp only [Act.put,sA,sZ,sS,i64_w,i32_w]
      rfl
     refine one_ (i:=1) (N:=some 21) #[tt,tt,tt,tt,ff,ff,ff,ff,ff,ff] rfl rfl (one_of HT_.out (by kernel_rfl)) (by decide) (fun K hK => ?_)
     refine goes_ Try.func11 (by kernel_rfl) rfl #[.agg #[.int .u64 a0_0,.slice A0_1 l0_1.length c0_1]] (by rfl) rfl rfl (by (try simp only [List.map_toArray,List.map_cons,List.map_nil]);first|done|rfl|(simp only [List.length_drop,List.length_take];rfl)) ?_
     with_reducible refine (gazetteerlaw17_copied.calls a0_0 _ _ l0_1 t164 t165 _ ?side1 ?side2 A16.out).mono ?_
     (case side1 => repeat (first|exact (Kd.C_below HR0_1.out HB.out)|(with_reducible refine Kd.C_alloc ?_ _)|(with_reducible refine Kd.C_drewN ?_ _)|(with_reducible refine Kd.C_drew ?_)))
     (case side2 => exact HC0_1.out)
     rintro e w157 ⟨v166,rfl,ho0,hb⟩
     refine ⟨_,rfl,?_⟩
     have n0_:=Ak (Kd.R_elder' (by (with_reducible repeat (first|apply Kd.R_alloc|apply Kd.R_drewN|apply Kd.R_drew));exact HO162.out) (Kd.R_base ho0) hb)
     have n1_:=Ak (Kd.R_lower (Kd.R_new' ho0 (Kd.R_lt (by (with_reducible repeat (first|apply Kd.R_alloc|apply Kd.R_drewN|apply Kd.R_drew));exact HO162.out))) (below_size (by repeat (first|(with_reducible first|exact HB.out|apply bA|apply bN|apply bD|refine bS ?_ GE155.out|refine bS ?_ GE156.out|refine bS ?_ GE157.out)|exact HB.out))))
     have n2_:=Ak (kB (g:=gb155) (o:=.cells #[.int .u64 a0_0,.slice A0_1 l0_1.length c0_1] 25 (0,0)) (by (with_reducible repeat (first|refine kN ?_ _|refine kD ?_|refine kA ?_ _));exact BK155.out) hb)
     have n3_:=Ak (kB (g:=gb156) (o:=.cells #[.int .u64 a1_0,.bool a1_1,.int .u64 a1_2] 27 (0,0)) (by (with_reducible repeat (first|refine kN ?_ _|refine kD ?_|refine kA ?_ _));exact BK156.out) hb)
     have n4_:=Ak (kB (g:=gb157) (o:=.cells #[.int .u32 a2_0,.int .u64 a2_1,.int .u64 a2_2,.int .i64 a2_3,.int .i64 a2_4,.int .i64 a2_5,.int .i64 a2_6,.int .i64 a2_7] 32 (0,0)) (by (with_reducible repeat (first|refine kN ?_ _|refine kD ?_|refine kA ?_ _));exact BK157.out) hb)
     have n5_:=Ak (below_step (by repeat (first|(with_reducible first|exact HB.out|apply bA|apply bN|apply bD|refine bS ?_ GE155.out|refine bS ?_ GE156.out|refine bS ?_ GE157.out)|exact HB.out)) hb)
     clear HO162
     clear BK155
     clear BK156
     clear BK157
     clear HB
     have HO162:=n0_
     have HO167:=n1_
     have BK155:=n2_
     have BK156:=n3_
     have BK157:=n4_
     have HB:=n5_
     clear n0_ n1_ n2_ n3_ n4_ n5_
     (try clear hb)
     (try clear hb2)
     (try clear hk)
     (try clear hi)
     (try clear ho0)
     obtain ⟨Ao158,co158,eo158⟩:=Kd.R_slice HO167.out
     (first|subst eo158|(injection eo158 with f1_ f2_ f3_;have f4_:=f1_.symm;have f5_:=f3_.symm;clear f1_ f2_ f3_;subst f4_;subst f5_))
     refine hK.out _ _ ⟨(kC BK155.out 0).trans rfl,(kC BK155.out 1).trans rfl,(kC BK156.out 0).trans rfl,(kC BK156.out 1).trans rfl,(kC BK156.out 2).trans rfl,(kC BK157.out 0).trans rfl,(kC BK157.out 1).trans rfl,(kC BK157.out 2).trans rfl,(kC BK157.out 3).trans rfl,(kC BK157.out 4).trans rfl,(kC BK157.out 5).trans rfl,(kC BK157.out 6).trans rfl,(kC BK157.out 7).trans rfl⟩ (fun hHeld => ?_)
     clear hK K
     refine norm_ (a':=?_) ?_ ?_
     rotate_left
     ·show Act.put _ (some 21) _ = _
      simp only [Act.put,sA,sZ,sS,i64_w,i32_w]
      rfl
     refine one_ (i:=4) (N:=some 24) #[tt,tt,tt,tt,tt,ff,ff,ff,ff,ff] rfl rfl (one_of HT_.out (by kernel_rfl)) (by decide) (fun K hK => ?_)
     refine goes_ Try.func12 (by kernel_rfl) rfl #[.agg #[.int .u64 t164,.slice Ao158 t165.length co158],.agg #[.int .u64 a1_0,.bool a1_1,.int .u64 a1_2],.agg #[.int .u32 a2_0,.int .u64 a2_1,.int .u64 a2_2,.int .i64 a2_3,.int .i64 a2_4,.int .i64 a2_5,.int .i64 a2_6,.int .i64 a2_7]] (by rfl) rfl rfl (by (try simp only [List.map_toArray,List.map_cons,List.map_nil]);first|done|rfl|(simp only [List.length_drop,List.length_take];rfl)) ?_
     with_reducible refine (vision_Sees.calls t164 _ _ t165 a1_0 a1_1 a1_2 a2_0 a2_1 a2_2 a2_3 a2_4 a2_5 a2_6 a2_7 t168 t169 _ ?side1 ?side2 A17.out).mono ?_
     (case side1 => repeat (first|exact (Kd.R_reads' HO167.out).2.2|(with_reducible refine Kd.C_alloc ?_ _)|(with_reducible refine Kd.C_drewN ?_ _)|(with_reducible refine Kd.C_drew ?_)))
     (case side2 => exact (Kd.R_reads' HO167.out).2.1)
     rintro e w159 ⟨rfl,hb⟩
     refine ⟨_,rfl,?_⟩
     have n0_:=Ak (Kd.R_below (by (with_reducible repeat (first|apply Kd.R_alloc|apply Kd.R_drewN|apply Kd.R_drew));exact HO162.out) hb)
     have n1_:=Ak (Kd.R_below (by (with_reducible repeat (first|apply Kd.R_alloc|apply Kd.R_drewN|apply Kd.R_drew));exact HO167.out) hb)
     have n2_:=Ak (kB (g:=gb155) (o:=.cells #[.int .u64 a0_0,.slice A0_1 l0_1.length c0_1] 25 (0,0)) (by (with_reducible repeat (first|refine kN ?_ _|refine kD ?_|refine kA ?_ _));exact BK155.out) hb)
     have n3_:=Ak (kB (g:=gb156) (o:=.cells #[.int .u64 a1_0,.bool a1_1,.int .u64 a1_2] 27 (0,0)) (by (with_reducible repeat (first|refine kN ?_ _|refine kD ?_|refine kA ?_ _));exact BK156.out) hb)
     have n4_:=Ak (kB (g:=gb157) (o:=.cells #[.int .u32 a2_0,.int .u64 a2_1,.int .u64 a2_2,.int .i64 a2_3,.int .i64 a2_4,.int .i64 a2_5,.int .i64 a2_6,.int .i64 a2_7] 32 (0,0)) (by (with_reducible repeat (first|refine kN ?_ _|refine kD ?_|refine kA ?_ _));exact BK157.out) hb)
     have n5_:=Ak (below_step (by repeat (first|(with_reducible first|exact HB.out|apply bA|apply bN|apply bD|refine bS ?_ GE155.out|refine bS ?_ GE156.out|refine bS ?_ GE157.out)|exact HB.out)) hb)
     clear HO162
     clear HO167
     clear BK155
     clear BK156
     clear BK157
     clear HB
     have HO162:=n0_
     have HO167:=n1_
     have BK155:=n2_
     have BK156:=n3_
     have BK157:=n4_
     have HB:=n5_
     clear n0_ n1_ n2_ n3_ n4_ n5_
     (try clear hb)
     (try clear hb2)
     (try clear hk)
     (try clear hi)
     refine hK.out _ _ ⟨(kC BK155.out 0).trans rfl,(kC BK155.out 1).trans rfl,(kC BK156.out 0).trans rfl,(kC BK156.out 1).trans rfl,(kC BK156.out 2).trans rfl,(kC BK157.out 0).trans rfl,(kC BK157.out 1).trans rfl,(kC BK157.out 2).trans rfl,(kC BK157.out 3).trans rfl,(kC BK157.out 4).trans rfl,(kC BK157.out 5).trans rfl,(kC BK157.out 6).trans rfl,(kC BK157.out 7).trans rfl⟩ (fun hHeld => ?_)
     clear hK K
     refine norm_ (a':=?_) ?_ ?_
     rotate_left
     ·show Act.put _ (some 24) _ = _
      simp only [Act.put,sA,sZ,sS,i64_w,i32_w]
      rfl
     refine pure_ (i:=5) (N:=some 19) (v:=?_) (a':=?_) #[tt,tt,tt,tt,tt,tt,ff,ff,ff,ff] rfl rfl (any_of HT_.out (by kernel_rfl)) (fun _ _ _ h => h) (Or.inl ⟨by rfl,?_⟩) ?_ ?_
     rotate_left
     ·intro w'
      go_simp
      with_reducible rfl
     rotate_left
     ·simp only [Act.put,sA,sZ,sS,i64_w,i32_w]
      rfl
     refine pure_ (i:=6) (N:=some 25) (v:=?_) (a':=?_) #[tt,tt,tt,tt,tt,tt,tt,ff,ff,ff] rfl rfl (any_of HT_.out (by kernel_rfl)) (fun _ _ _ h => h) (Or.inl ⟨by rfl,?_⟩) ?_ ?_
     rotate_left
     ·intro w'
      go_simp
      with_reducible rfl
     rotate_left
     ·simp only [Act.put,sA,sZ,sS,i64_w,i32_w]
      rfl
     refine pure_ (i:=7) (N:=some 26) (v:=?_) (a':=?_) #[tt,tt,tt,tt,tt,tt,tt,tt,ff,ff] rfl rfl (any_of HT_.out (by kernel_rfl)) (fun _ _ _ h => h) (Or.inl ⟨by rfl,?_⟩) ?_ ?_
     rotate_left
     ·intro w'
      go_simp
      with_reducible rfl
     rotate_left
     ·simp only [Act.put,sA,sZ,sS,i64_w,i32_w]
      rfl
     refine pure_ (i:=8) (N:=some 8) (v:=?_) (a':=?_) #[tt,tt,tt,tt,tt,tt,tt,tt,tt,ff] rfl rfl (any_of HT_.out (by kernel_rfl)) (fun _ _ _ h => h) (Or.inl ⟨by rfl,?_⟩) ?_ ?_
     rotate_left
     ·intro w'
      go_simp
      with_reducible rfl
     rotate_left
     ·simp only [Act.put,sA,sZ,sS,i64_w,i32_w]
      rfl
     refine pure_ (i:=9) (N:=some 9) (v:=?_) (a':=?_) #[tt,tt,tt,tt,tt,tt,tt,tt,tt,tt] rfl rfl (any_of HT_.out (by kernel_rfl)) (fun _ _ _ h => h) (Or.inl ⟨by rfl,?_⟩) ?_ ?_
     rotate_left
     ·intro w'
      go_simp
      with_reducible rfl
     rotate_left
     ·simp only [Act.put,sA,sZ,sS,i64_w,i32_w]
      rfl
     refine done_ (done_of HT_.out (by kernel_rfl)) ?_
     have hcz160_0 : w159.cell? ⟨gb155,0,none⟩ = some (.int .u64 a0_0):=(kC BK155.out 0).trans rfl
     have hcz160_1 : w159.cell? ⟨gb155,1,none⟩ = some (.slice A0_1 l0_1.length c0_1):=(kC BK155.out 1).trans rfl
     have hfz160_0:=blk_frozen BK155.out 0
     have hfz160_1:=blk_frozen BK155.out 1
     try go_wp2_with (first|((with_reducible refine gate_callee (f:=13) rfl ?_);refine goesL_ (some 28) rfl rfl Try.func13 (by kernel_rfl) rfl #[.agg #[.int .u64 a0_0,.slice A0_1 l0_1.length c0_1]] rfl (by (try simp only [List.map_toArray,List.map_cons,List.map_nil]);first|done|rfl|(simp only [List.length_drop,List.length_take];rfl)) ?_;(with_reducible refine (gazetteerref17_Right.calls k a0_0 _ _ l0_1 false _ ?side1 ?side2 A18.out).mono ?_);(case side1 => repeat (first|exact (Kd.C_below HR0_1.out HB.out)|(with_reducible refine Kd.C_alloc ?_ _)|(with_reducible refine Kd.C_drewN ?_ _)|(with_reducible refine Kd.C_drew ?_)));(case side2 => exact HC0_1.out);rintro e w161 ⟨rfl,hb⟩;refine ⟨_,rfl,?_⟩;have n0_:=Ak (Kd.R_below (by (with_reducible repeat (first|apply Kd.R_alloc|apply Kd.R_drewN|apply Kd.R_drew));exact HO162.out) hb);have n1_:=Ak (Kd.R_below (by (with_reducible repeat (first|apply Kd.R_alloc|apply Kd.R_drewN|apply Kd.R_drew));exact HO167.out) hb);have n2_:=Ak (kB (g:=gb155) (o:=.cells #[.int .u64 a0_0,.slice A0_1 l0_1.length c0_1] 25 (0,0)) (by (with_reducible repeat (first|refine kN ?_ _|refine kD ?_|refine kA ?_ _));exact BK155.out) hb);have n3_:=Ak (kB (g:=gb156) (o:=.cells #[.int .u64 a1_0,.bool a1_1,.int .u64 a1_2] 27 (0,0)) (by (with_reducible repeat (first|refine kN ?_ _|refine kD ?_|refine kA ?_ _));exact BK156.out) hb);have n4_:=Ak (kB (g:=gb157) (o:=.cells #[.int .u32 a2_0,.int .u64 a2_1,.int .u64 a2_2,.int .i64 a2_3,.int .i64 a2_4,.int .i64 a2_5,.int .i64 a2_6,.int .i64 a2_7] 32 (0,0)) (by (with_reducible repeat (first|refine kN ?_ _|refine kD ?_|refine kA ?_ _));exact BK157.out) hb);have n5_:=Ak (below_step (by repeat (first|(with_reducible first|exact HB.out|apply bA|apply bN|apply bD|refine bS ?_ GE155.out|refine bS ?_ GE156.out|refine bS ?_ GE157.out)|exact HB.out)) hb);clear HO162;clear HO167;clear BK155;clear BK156;clear BK157;clear HB;have HO162:=n0_;have HO167:=n1_;have BK155:=n2_;have BK156:=n3_;have BK157:=n4_;have HB:=n5_;clear n0_ n1_ n2_ n3_ n4_ n5_;(try clear hb);(try clear hb2);(try clear hk);(try clear hi)))
     have n0_:=Ak (Kd.R_drew HO162.out)
     have n1_:=Ak (Kd.R_drew HO167.out)
     have n2_:=Ak (kD BK155.out)
     have n3_:=Ak (kD BK156.out)
     have n4_:=Ak (kD BK157.out)
     have n5_:=Ak (bD HB.out)
     clear HO162
     clear HO167
     clear BK155
     clear BK156
     clear BK157
     clear HB
     have HO162:=n0_
     have HO167:=n1_
     have BK155:=n2_
     have BK156:=n3_
     have BK157:=n4_
     have HB:=n5_
     clear n0_ n1_ n2_ n3_ n4_ n5_
     refine start_ (n:=20) (S:=fun w' => True) (ds:=[]) #[ff,ff,ff,ff,ff,ff,ff,ff,ff,ff,ff,ff,ff,ff,ff,ff,ff,ff,ff,ff] (by kernel_rfl) rfl rfl trivial (fun hHeld => ?_);refine with_tabW gazetteerlaw17_VisionCounts.tab8 gazetteerlaw17_VisionCounts.bits8 (fun HT_ HW_ => ?_)
     generalize w161.drew = w162 at HO162 HO167 BK155 BK156 BK157 HB hHeld ⊢
     refine pure_ (i:=0) (N:=some 30) (v:=?_) (a':=?_) #[tt,ff,ff,ff,ff,ff,ff,ff,ff,ff,ff,ff,ff,ff,ff,ff,ff,ff,ff,ff] rfl rfl (any_of HT_.out (by kernel_rfl)) (fun _ _ _ h => h) (Or.inl ⟨by rfl,?_⟩) ?_ ?_
     rotate_left
     ·intro w'
      go_simp
      with_reducible rfl
     rotate_left
     ·simp only [Act.put,sA,sZ,sS,i64_w,i32_w]
      rfl
     refine pure_ (i:=1) (N:=some 31) (v:=?_) (a':=?_) #[tt,tt,ff,ff,ff,ff,ff,ff,ff,ff,ff,ff,ff,ff,ff,ff,ff,ff,ff,ff] rfl rfl (any_of HT_.out (by kernel_rfl)) (fun _ _ _ h => h) (Or.inl ⟨by rfl,?_⟩) ?_ ?_
     rotate_left
     ·intro w'
      go_simp
      with_reducible rfl
     rotate_left
     ·simp only [Act.put,sA,sZ,sS,i64_w,i32_w]
      rfl
     refine pure_ (i:=2) (N:=some 32) (v:=?_) (a':=?_) #[tt,tt,tt,ff,ff,ff,ff,ff,ff,ff,ff,ff,ff,ff,ff,ff,ff,ff,ff,ff] rfl rfl (any_of HT_.out (by kernel_rfl)) (fun _ _ _ h => h) (Or.inl ⟨by rfl,?_⟩) ?_ ?_
     rotate_left
     ·intro w'
      go_simp
      with_reducible rfl
     rotate_left
     ·simp only [Act.put,sA,sZ,sS,i64_w,i32_w]
      rfl
     refine pure_ (i:=3) (N:=some 33) (v:=undef) (a':=?_) #[tt,tt,tt,tt,ff,ff,ff,ff,ff,ff,ff,ff,ff,ff,ff,ff,ff,ff,ff,ff] rfl rfl (any_of HT_.out (by kernel_rfl)) (fun _ _ _ h => h) (Or.inr ⟨by rfl,rfl⟩) ?_ ?_
     rotate_left
     ·simp only [Act.put,sA,sZ,sS,i64_w,i32_w]
      rfl
     refine pure_ (i:=4) (N:=some 34) (v:=undef) (a':=?_) #[tt,tt,tt,tt,tt,ff,ff,ff,ff,ff,ff,ff,ff,ff,ff,ff,ff,ff,ff,ff] rfl rfl (any_of HT_.out (by kernel_rfl)) (fun _ _ _ h => h) (Or.inr ⟨by rfl,rfl⟩) ?_ ?_
     rotate_left
     ·simp only [Act.put,sA,sZ,sS,i64_w,i32_w]
      rfl
     refine pure_ (i:=5) (N:=some 35) (v:=?_) (a':=?_) #[tt,tt,tt,tt,tt,tt,ff,ff,ff,ff,ff,ff,ff,ff,ff,ff,ff,ff,ff,ff] rfl rfl (any_of HT_.out (by kernel_rfl)) (fun _ _ _ h => h) (Or.inl ⟨by rfl,?_⟩) ?_ ?_
     rotate_left
     ·intro w'
      go_simp
      with_reducible rfl
     rotate_left
     ·simp only [Act.put,sA,sZ,sS,i64_w,i32_w]
      rfl
     refine pure_ (i:=6) (N:=some 36) (v:=?_) (a':=?_) #[tt,tt,tt,tt,tt,tt,tt,ff,ff,ff,ff,ff,ff,ff,ff,ff,ff,ff,ff,ff] rfl rfl (any_of HT_.out (by kernel_rfl)) (fun _ _ _ h => h) (Or.inl ⟨by rfl,?_⟩) ?_ ?_
     rotate_left
     ·intro w'
      go_simp
      with_reducible rfl
     rotate_left
     ·simp only [Act.put,sA,sZ,sS,i64_w,i32_w]
      rfl
     refine pure_ (i:=7) (N:=some 37) (v:=undef) (a':=?_) #[tt,tt,tt,tt,tt,tt,tt,tt,ff,ff,ff,ff,ff,ff,ff,ff,ff,ff,ff,ff] rfl rfl (any_of HT_.out (by kernel_rfl)) (fun _ _ _ h => h) (Or.inr ⟨by rfl,rfl⟩) ?_ ?_
     rotate_left
     ·simp only [Act.put,sA,sZ,sS,i64_w,i32_w]
      rfl
     refine pure_ (i:=8) (N:=some 38) (v:=undef) (a':=?_) #[tt,tt,tt,tt,tt,tt,tt,tt,tt,ff,ff,ff,ff,ff,ff,ff,ff,ff,ff,ff] rfl rfl (any_of HT_.out (by kernel_rfl)) (fun _ _ _ h => h) (Or.inr ⟨by rfl,rfl⟩) ?_ ?_
     rotate_left
     ·simp only [Act.put,sA,sZ,sS,i64_w,i32_w]
      rfl
     refine pure_ (i:=9) (N:=some 39) (v:=?_) (a':=?_) #[tt,tt,tt,tt,tt,tt,tt,tt,tt,tt,ff,ff,ff,ff,ff,ff,ff,ff,ff,ff] rfl rfl (any_of HT_.out (by kernel_rfl)) (fun _ _ _ h => h) (Or.inl ⟨by rfl,?_⟩) ?_ ?_
     rotate_left
     ·intro w'
      go_simp
      with_reducible rfl
     rotate_left
     ·simp only [Act.put,sA,sZ,sS,i64_w,i32_w]
      rfl
     refine pure_ (i:=10) (N:=some 40) (v:=?_) (a':=?_) #[tt,tt,tt,tt,tt,tt,tt,tt,tt,tt,tt,ff,ff,ff,ff,ff,ff,ff,ff,ff] rfl rfl (any_of HT_.out (by kernel_rfl)) (fun _ _ _ h => h) (Or.inl ⟨by rfl,?_⟩) ?_ ?_
     rotate_left
     ·intro w'
      go_simp
      with_reducible rfl
     rotate_left
     ·simp only [Act.put,sA,sZ,sS,i64_w,i32_w]
      rfl
     refine pure_ (i:=11) (N:=some 41) (v:=undef) (a':=?_) #[tt,tt,tt,tt,tt,tt,tt,tt,tt,tt,tt,tt,ff,ff,ff,ff,ff,ff,ff,ff] rfl rfl (any_of HT_.out (by kernel_rfl)) (fun _ _ _ h => h) (Or.inr ⟨by rfl,rfl⟩) ?_ ?_
     rotate_left
     ·simp only [Act.put,sA,sZ,sS,i64_w,i32_w]
      rfl
     refine pure_ (i:=12) (N:=some 42) (v:=undef) (a':=?_) #[tt,tt,tt,tt,tt,tt,tt,tt,tt,tt,tt,tt,tt,ff,ff,ff,ff,ff,ff,ff] rfl rfl (any_of HT_.out (by kernel_rfl)) (fun _ _ _ h => h) (Or.inr ⟨by rfl,rfl⟩) ?_ ?_
     rotate_left
     ·simp only [Act.put,sA,sZ,sS,i64_w,i32_w]
      rfl
     refine pure_ (i:=13) (N:=some 43) (v:=undef) (a':=?_) #[tt,tt,tt,tt,tt,tt,tt,tt,tt,tt,tt,tt,tt,tt,ff,ff,ff,ff,ff,ff] rfl rfl (any_of HT_.out (by kernel_rfl)) (fun _ _ _ h => h) (Or.inr ⟨by rfl,rfl⟩) ?_ ?_
     rotate_left
     ·simp only [Act.put,sA,sZ,sS,i64_w,i32_w]
      rfl
     refine pure_ (i:=14) (N:=some 44) (v:=undef) (a':=?_) #[tt,tt,tt,tt,tt,tt,tt,tt,tt,tt,tt,tt,tt,tt,tt,ff,ff,ff,ff,ff] rfl rfl (any_of HT_.out (by kernel_rfl)) (fun _ _ _ h => h) (Or.inr ⟨by rfl,rfl⟩) ?_ ?_
     rotate_left
     ·simp only [Act.put,sA,sZ,sS,i64_w,i32_w]
      rfl
     refine pure_ (i:=15) (N:=some 45) (v:=undef) (a':=?_) #[tt,tt,tt,tt,tt,tt,tt,tt,tt,tt,tt,tt,tt,tt,tt,tt,ff,ff,ff,ff] rfl rfl (any_of HT_.out (by kernel_rfl)) (fun _ _ _ h => h) (Or.inr ⟨by rfl,rfl⟩) ?_ ?_
     rotate_left
     ·simp only [Act.put,sA,sZ,sS,i64_w,i32_w]
      rfl
     refine pure_ (i:=16) (N:=some 46) (v:=undef) (a':=?_) #[tt,tt,tt,tt,tt,tt,tt,tt,tt,tt,tt,tt,tt,tt,tt,tt,tt,ff,ff,ff] rfl rfl (any_of HT_.out (by kernel_rfl)) (fun _ _ _ h => h) (Or.inr ⟨by rfl,rfl⟩) ?_ ?_
     rotate_left
     ·simp only [Act.put,sA,sZ,sS,i64_w,i32_w]
      rfl
     refine pure_ (i:=17) (N:=some 47) (v:=undef) (a':=?_) #[tt,tt,tt,tt,tt,tt,tt,tt,tt,tt,tt,tt,tt,tt,tt,tt,tt,tt,ff,ff] rfl rfl (any_of HT_.out (by kernel_rfl)) (fun _ _ _ h => h) (Or.inr ⟨by rfl,rfl⟩) ?_ ?_
     rotate_left
     ·simp only [Act.put,sA,sZ,sS,i64_w,i32_w]
      rfl
     refine pure_ (i:=18) (N:=some 48) (v:=?_) (a':=?_) #[tt,tt,tt,tt,tt,tt,tt,tt,tt,tt,tt,tt,tt,tt,tt,tt,tt,tt,tt,ff] rfl rfl (any_of HT_.out (by kernel_rfl)) (fun _ _ _ h => h) (Or.inl ⟨by rfl,?_⟩) ?_ ?_
     rotate_left
     ·intro w'
      go_simp
      with_reducible rfl
     rotate_left
     ·simp only [Act.put,sA,sZ,sS,i64_w,i32_w]
      rfl
     refine pure_ (i:=19) (N:=some 6) (v:=?_) (a':=?_) #[tt,tt,tt,tt,tt,tt,tt,tt,tt,tt,tt,tt,tt,tt,tt,tt,tt,tt,tt,tt] rfl rfl (any_of HT_.out (by kernel_rfl)) (fun _ _ _ h => h) (Or.inl ⟨by rfl,?_⟩) ?_ ?_
     rotate_left
     ·intro w'
      go_simp
      with_reducible rfl
     rotate_left
     ·simp only [Act.put,sA,sZ,sS,i64_w,i32_w]
      rfl
     refine done_ (done_of HT_.out (by kernel_rfl)) ?_
     try go_wp2
     go_ret
     exact ⟨by first|rfl|(simp [errW_none,errW_some] <;> rfl)|(simp [*,errW_none,errW_some] <;> rfl),by repeat (first|(with_reducible first|exact HB.out|apply bA|apply bN|apply bD|refine bS ?_ GE155.out|refine bS ?_ GE156.out|refine bS ?_ GE157.out)|exact HB.out)⟩
 ·replace c5:=Bool.eq_false_iff.mpr c5
  subst c5
  have H1 : (some false) = some r:=by rw [if_neg (show ¬ (false = true) by decide)] at H;exact H
  clear H
  have H:=H1
  clear H1
  obtain rfl:=Option.some.inj H
  go_enter Try.func3,Try.ntmps3
  go_wp2_with (first|((with_reducible refine gate_dst (N:=3) rfl ?_);refine box_event ?hg (N:=3) ?hd (cs:=#[.int .u64 a0_0,.slice A0_1 l0_1.length c0_1]) (t:=25) ?hr ?_;(case hd => rfl);(case hg => rfl);(case hr => first|(go_simp;done)|(go_simp;rfl));intro gb155 hg w163 hbox hb;have n0_:=Ak (below_step (by repeat (first|(with_reducible first|exact HB.out|apply bA|apply bN|apply bD)|exact HB.out)) hb);have n1_:=Ak (hbox);have n2_:=Ak ((by rw [hg];exact (below_size (by repeat (first|(with_reducible first|exact HB.out|apply bA|apply bN|apply bD)|exact HB.out))) : w.heap.size ≤ gb155));have n3_:=Ak ((by rw [hg];exact (below_size (by repeat (first|(with_reducible first|exact HB.out|apply bA|apply bN|apply bD)|exact HB.out))) : w.heap.size ≤ gb155));clear HB;have HB:=n0_;have BK155:=n1_;have GW155:=n2_;have GE155:=n3_;clear n0_ n1_ n2_ n3_;clear hb hbox hg)|((with_reducible refine gate_dst (N:=4) rfl ?_);refine box_event ?hg (N:=4) ?hd (cs:=#[.int .u64 a1_0,.bool a1_1,.int .u64 a1_2]) (t:=27) ?hr ?_;(case hd => rfl);(case hg => rfl);(case hr => first|(go_simp;done)|(go_simp;rfl));intro gb156 hg w164 hbox hb;have n0_:=Ak (kB (g:=gb155) (o:=.cells #[.int .u64 a0_0,.slice A0_1 l0_1.length c0_1] 25 (0,0)) (by (with_reducible repeat (first|refine kN ?_ _|refine kD ?_|refine kA ?_ _));exact BK155.out) hb);have n1_:=Ak (below_step (by repeat (first|(with_reducible first|exact HB.out|apply bA|apply bN|apply bD|refine bS ?_ GE155.out)|exact HB.out)) hb);have n2_:=Ak (hbox);have n3_:=Ak ((by rw [hg];exact (below_size (by repeat (first|(with_reducible first|exact HB.out|apply bA|apply bN|apply bD|refine bS ?_ GE155.out)|exact HB.out))) : w.heap.size ≤ gb156));have n4_:=Ak ((by rw [hg];exact (below_size (by repeat (first|(with_reducible first|exact HB.out|apply bA|apply bN|apply bD|refine bS ?_ GE155.out)|exact HB.out))) : w.heap.size ≤ gb156));have n5_:=Ak ((by rw [hg];exact Nat.ne_of_lt (blk_lt (g:=gb155) (o:=.cells #[.int .u64 a0_0,.slice A0_1 l0_1.length c0_1] 25 (0,0)) (by (with_reducible repeat (first|refine kN ?_ _|refine kD ?_|refine kA ?_ _));exact BK155.out)) : gb155 ≠ gb156));have n6_:=Ak ((by rw [hg];exact Nat.ne_of_gt (blk_lt (g:=gb155) (o:=.cells #[.int .u64 a0_0,.slice A0_1 l0_1.length c0_1] 25 (0,0)) (by (with_reducible repeat (first|refine kN ?_ _|refine kD ?_|refine kA ?_ _));exact BK155.out)) : gb156 ≠ gb155));clear BK155;clear HB;have BK155:=n0_;have HB:=n1_;have BK156:=n2_;have GW156:=n3_;have GE156:=n4_;have NB155_156:=n5_;have NB156_155:=n6_;clear n0_ n1_ n2_ n3_ n4_ n5_ n6_;clear hb hbox hg)|((with_reducible refine gate_dst (N:=5) rfl ?_);refine box_event ?hg (N:=5) ?hd (cs:=#[.int .u32 a2_0,.int .u64 a2_1,.int .u64 a2_2,.int .i64 a2_3,.int .i64 a2_4,.int .i64 a2_5,.int .i64 a2_6,.int .i64 a2_7]) (t:=32) ?hr ?_;(case hd => rfl);(case hg => rfl);(case hr => first|(go_simp;done)|(go_simp;rfl));intro gb157 hg w165 hbox hb;have n0_:=Ak (kB (g:=gb155) (o:=.cells #[.int .u64 a0_0,.slice A0_1 l0_1.length c0_1] 25 (0,0)) (by (with_reducible repeat (first|refine kN ?_ _|refine kD ?_|refine kA ?_ _));exact BK155.out) hb);have n1_:=Ak (kB (g:=gb156) (o:=.cells #[.int .u64 a1_0,.bool a1_1,.int .u64 a1_2] 27 (0,0)) (by (with_reducible repeat (first|refine kN ?_ _|refine kD ?_|refine kA ?_ _));exact BK156.out) hb);have n2_:=Ak (below_step (by repeat (first|(with_reducible first|exact HB.out|apply bA|apply bN|apply bD|refine bS ?_ GE155.out|refine bS ?_ GE156.out)|exact HB.out)) hb);have n3_:=Ak (hbox);have n4_:=Ak ((by rw [hg];exact (below_size (by repeat (first|(with_reducible first|exact HB.out|apply bA|apply bN|apply bD|refine bS ?_ GE155.out|refine bS ?_ GE156.out)|exact HB.out))) : w.heap.size ≤ gb157));have n5_:=Ak ((by rw [hg];exact (below_size (by repeat (first|(with_reducible first|exact HB.out|apply bA|apply bN|apply bD|refine bS ?_ GE155.out|refine bS ?_ GE156.out)|exact HB.out))) : w.heap.size ≤ gb157));have n6_:=Ak ((by rw [hg];exact Nat.ne_of_lt (blk_lt (g:=gb155) (o:=.cells #[.int .u64 a0_0,.slice A0_1 l0_1.length c0_1] 25 (0,0)) (by (with_reducible repeat (first|refine kN ?_ _|refine kD ?_|refine kA ?_ _));exact BK155.out)) : gb155 ≠ gb157));have n7_:=Ak ((by rw [hg];exact Nat.ne_of_gt (blk_lt (g:=gb155) (o:=.cells #[.int .u64 a0_0,.slice A0_1 l0_1.length c0_1] 25 (0,0)) (by (with_reducible repeat (first|refine kN ?_ _|refine kD ?_|refine kA ?_ _));exact BK155.out)) : gb157 ≠ gb155));have n8_:=Ak ((by rw [hg];exact Nat.ne_of_lt (blk_lt (g:=gb156) (o:=.cells #[.int .u64 a1_0,.bool a1_1,.int .u64 a1_2] 27 (0,0)) (by (with_reducible repeat (first|refine kN ?_ _|refine kD ?_|refine kA ?_ _));exact BK156.out)) : gb156 ≠ gb157));have n9_:=Ak ((by rw [hg];exact Nat.ne_of_gt (blk_lt (g:=gb156) (o:=.cells #[.int .u64 a1_0,.bool a1_1,.int .u64 a1_2] 27 (0,0)) (by (with_reducible repeat (first|refine kN ?_ _|refine kD ?_|refine kA ?_ _));exact BK156.out)) : gb157 ≠ gb156));clear BK155;clear BK156;clear HB;have BK155:=n0_;have BK156:=n1_;have HB:=n2_;have BK157:=n3_;have GW157:=n4_;have GE157:=n5_;have NB155_157:=n6_;have NB157_155:=n7_;have NB156_157:=n8_;have NB157_156:=n9_;clear n0_ n1_ n2_ n3_ n4_ n5_ n6_ n7_ n8_ n9_;clear hb hbox hg)|((with_reducible refine gate_callee (f:=9) rfl ?_);refine goesL_ (some 10) rfl rfl Try.func9 (by kernel_rfl) rfl #[] rfl (by (try simp only [List.map_toArray,List.map_cons,List.map_nil]);first|done|rfl|(simp only [List.length_drop,List.length_take];rfl)) ?_;(with_reducible refine (gazetteerlaw17_wakes.calls  false _ A4.out).mono ?_);rintro e w166 ⟨rfl,hb⟩;refine ⟨_,rfl,?_⟩;have n0_:=Ak (kB (g:=gb155) (o:=.cells #[.int .u64 a0_0,.slice A0_1 l0_1.length c0_1] 25 (0,0)) (by (with_reducible repeat (first|refine kN ?_ _|refine kD ?_|refine kA ?_ _));exact BK155.out) hb);have n1_:=Ak (kB (g:=gb156) (o:=.cells #[.int .u64 a1_0,.bool a1_1,.int .u64 a1_2] 27 (0,0)) (by (with_reducible repeat (first|refine kN ?_ _|refine kD ?_|refine kA ?_ _));exact BK156.out) hb);have n2_:=Ak (kB (g:=gb157) (o:=.cells #[.int .u32 a2_0,.int .u64 a2_1,.int .u64 a2_2,.int .i64 a2_3,.int .i64 a2_4,.int .i64 a2_5,.int .i64 a2_6,.int .i64 a2_7] 32 (0,0)) (by (with_reducible repeat (first|refine kN ?_ _|refine kD ?_|refine kA ?_ _));exact BK157.out) hb);have n3_:=Ak (below_step (by repeat (first|(with_reducible first|exact HB.out|apply bA|apply bN|apply bD|refine bS ?_ GE155.out|refine bS ?_ GE156.out|refine bS ?_ GE157.out)|exact HB.out)) hb);clear BK155;clear BK156;clear BK157;clear HB;have BK155:=n0_;have BK156:=n1_;have BK157:=n2_;have HB:=n3_;clear n0_ n1_ n2_ n3_;(try clear hb);(try clear hb2);(try clear hk);(try clear hi)))
  go_ret
  exact ⟨by first|rfl|(simp [errW_none,errW_some] <;> rfl)|(simp [*,errW_none,errW_some] <;> rfl),by repeat (first|(with_reducible first|exact HB.out|apply bA|apply bN|apply bD|refine bS ?_ GE155.out|refine bS ?_ GE156.out|refine bS ?_ GE157.out)|exact HB.out)⟩

end Go.Proofs.Ytfggjefncnhikaa.A
