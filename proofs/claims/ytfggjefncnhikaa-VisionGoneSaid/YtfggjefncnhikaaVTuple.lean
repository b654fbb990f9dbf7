/- The walks of what a box, a tuple may be: key's box and Check, heap's Check, gazetteerref09's Box, gazetteerref10's Right. -/
import Derived.Test.YtfggjefncnhikaaVCounts
namespace Go.Proofs.Ytfggjefncnhikaa
set_option linter.unusedVariables false
set_option linter.unusedSimpArgs false
open Go.RowKit

/-- May a box be? -/
def boxF (x0 x1 y0 y1 : Int) : Bool := decide (x0 ≤ x1) && decide (y0 ≤ y1)
/-- May a tuple be? -/
def tupF (row xmin xmax x0 x1 y0 y1 : Int) : Bool := decide (1 ≤ row) && decide (1 ≤ xmin) && decide (xmin ≤ 4294967295) && decide (xmax ≤ 4294967295) && boxF x0 x1 y0 y1

set_option maxHeartbeats 1000000 in
theorem kbox_any (x0 x1 y0 y1 : Int) (w : World) :
    Calls Try.prog 46 #[.agg #[.int .i64 x0, .int .i64 x1, .int .i64 y0, .int .i64 y1]] w fun e w' => e = .returned (.bool (boxF x0 x1 y0 y1)) ∧ Below w.heap.size w w' := by
  go_enter Try.func46, Try.ntmps46
  go_wp2
  all_goals
    go_ret
    refine ⟨?_, by (repeat (first | exact Below.refl _ _ | refine Below.drew ?_ | refine below_drewN' ?_ | refine Below.alloc ?_ (by simp; try omega) _ | refine Below.setCell ?_ (by simp; try omega) _))⟩
    unfold boxF
    first
      | (simp [*]; done)
      | (have h9 : ¬ x0 ≤ x1 := by omega
         simp [h9]; done)
set_option maxHeartbeats 1000000 in
theorem rbox_any (x0 x1 y0 y1 : Int) (w : World) :
    Calls Try.prog 24 #[.agg #[.int .i64 x0, .int .i64 x1, .int .i64 y0, .int .i64 y1]] w fun e w' => e = .returned (.bool (boxF x0 x1 y0 y1)) ∧ Below w.heap.size w w' := by
  go_enter Try.func24, Try.ntmps24
  go_wp2
  all_goals
    go_ret
    refine ⟨?_, by (repeat (first | exact Below.refl _ _ | refine Below.drew ?_ | refine below_drewN' ?_ | refine Below.alloc ?_ (by simp; try omega) _ | refine Below.setCell ?_ (by simp; try omega) _))⟩
    unfold boxF
    first
      | (simp [*]; done)
      | (have h9 : ¬ x0 ≤ x1 := by omega
         simp [h9]; done)
set_option maxHeartbeats 1000000 in
theorem kcheck_any (x0 x1 y0 y1 : Int) (w : World) :
    Calls Try.prog 36 #[.int .i64 1, .agg #[.int .i64 x0, .int .i64 x1, .int .i64 y0, .int .i64 y1]] w fun e w' => e = .returned (.int .i64 (if boxF x0 x1 y0 y1 then 0 else 2)) ∧ Below w.heap.size w w' := by
  have hb : ∀ W, Hid (Calls Try.prog 46 #[.agg #[.int .i64 x0, .int .i64 x1, .int .i64 y0, .int .i64 y1]] W fun e w' => e = .returned (.bool (boxF x0 x1 y0 y1)) ∧ Below W.heap.size W w') := fun W => Lib.hid (kbox_any x0 x1 y0 y1 W)
  obtain ⟨b, hb0⟩ : ∃ b, boxF x0 x1 y0 y1 = b := ⟨_, rfl⟩
  rw [hb0] at hb ⊢
  clear hb0
  cases b
  all_goals
    go_enter Try.func36, Try.ntmps36
    go_wp2_with (go_at_call 46; (with_reducible refine (hb _).out.mono ?_); rintro e w1 ⟨rfl, hb1⟩)
    go_ret
    exact ⟨rfl, Below.step (by (repeat (first | exact Below.refl _ _ | refine Below.drew ?_ | refine below_drewN' ?_ | refine Below.alloc ?_ (by simp; try omega) _ | refine Below.setCell ?_ (by simp; try omega) _))) hb1 (by simp)⟩

set_option maxHeartbeats 2000000 in
theorem hcheck_any (row xmin xmax x0 x1 y0 y1 val : Int) (w : World) (hr : 0 ≤ row) (hm : 0 ≤ xmin) :
    Calls Try.prog 28 #[tupV row xmin xmax x0 x1 y0 y1 val] w fun e w' => e = .returned (.int .i64 (if tupF row xmin xmax x0 x1 y0 y1 then 0 else 200)) ∧ Below w.heap.size w w' := by
  have hb : ∀ W, Hid (Calls Try.prog 36 #[.int .i64 1, .agg #[.int .i64 x0, .int .i64 x1, .int .i64 y0, .int .i64 y1]] W fun e w' => e = .returned (.int .i64 (if boxF x0 x1 y0 y1 then 0 else 2)) ∧ Below W.heap.size W w') := fun W => Lib.hid (kcheck_any x0 x1 y0 y1 W)
  unfold tupF
  obtain ⟨b, hb0⟩ : ∃ b, boxF x0 x1 y0 y1 = b := ⟨_, rfl⟩
  rw [hb0] at hb ⊢
  clear hb0
  by_cases h1 : row = 0
  · subst h1
    go_enter Try.func28, Try.ntmps28
    go_wp2
    all_goals first | (go_ret; exact ⟨by simp [*], by (repeat (first | exact Below.refl _ _ | refine Below.drew ?_ | refine below_drewN' ?_ | refine Below.alloc ?_ (by simp; try omega) _ | refine Below.setCell ?_ (by simp; try omega) _))⟩) | (exfalso; simp_all; done)
  have b1 : (row == 0) = false := by simp [h1]
  by_cases h2 : xmin = 0
  · subst h2
    go_enter Try.func28, Try.ntmps28
    go_wp2
    all_goals first | (go_ret; exact ⟨by simp [*], by (repeat (first | exact Below.refl _ _ | refine Below.drew ?_ | refine below_drewN' ?_ | refine Below.alloc ?_ (by simp; try omega) _ | refine Below.setCell ?_ (by simp; try omega) _))⟩) | (exfalso; simp_all; done)
  have b2 : (xmin == 0) = false := by simp [h2]
  have e1 : decide (1 ≤ row) = true := decide_eq_true (by omega)
  have e2 : decide (1 ≤ xmin) = true := decide_eq_true (by omega)
  rw [e1, e2]
  clear e1 e2
  by_cases h3 : 4294967295 < xmin
  · have e3 : decide (xmin ≤ 4294967295) = false := decide_eq_false (by omega)
    rw [e3]
    clear e3
    go_enter Try.func28, Try.ntmps28
    go_wp2
    all_goals first | (go_ret; exact ⟨by simp [*], by (repeat (first | exact Below.refl _ _ | refine Below.drew ?_ | refine below_drewN' ?_ | refine Below.alloc ?_ (by simp; try omega) _ | refine Below.setCell ?_ (by simp; try omega) _))⟩) | (exfalso; simp_all; done)
  have e3 : decide (xmin ≤ 4294967295) = true := decide_eq_true (by omega)
  rw [e3]
  clear e3
  by_cases h4 : 4294967295 < xmax
  · have e3 : decide (xmax ≤ 4294967295) = false := decide_eq_false (by omega)
    rw [e3]
    clear e3
    go_enter Try.func28, Try.ntmps28
    go_wp2
    all_goals first | (go_ret; exact ⟨by simp [*], by (repeat (first | exact Below.refl _ _ | refine Below.drew ?_ | refine below_drewN' ?_ | refine Below.alloc ?_ (by simp; try omega) _ | refine Below.setCell ?_ (by simp; try omega) _))⟩) | (exfalso; simp_all; done)
  have e3 : decide (xmax ≤ 4294967295) = true := decide_eq_true (by omega)
  rw [e3]
  clear e3
  cases b
  all_goals
    go_enter Try.func28, Try.ntmps28
    go_wp2_with (go_at_call 36; (with_reducible refine (hb _).out.mono ?_); rintro e w1 ⟨rfl, hb1⟩)
    all_goals first | (go_ret; exact ⟨by first | rfl | simp [*], Below.step (by (repeat (first | exact Below.refl _ _ | refine Below.drew ?_ | refine below_drewN' ?_ | refine Below.alloc ?_ (by simp; try omega) _ | refine Below.setCell ?_ (by simp; try omega) _))) hb1 (by simp)⟩) | (exfalso; simp_all; done)

set_option maxHeartbeats 2000000 in
theorem rtuple_any (row xmin xmax x0 x1 y0 y1 val : Int) (w : World) :
    Calls Try.prog 16 #[tupV row xmin xmax x0 x1 y0 y1 val] w fun e w' => e = .returned (.bool (tupF row xmin xmax x0 x1 y0 y1)) ∧ Below w.heap.size w w' := by
  have hb : ∀ W, Hid (Calls Try.prog 24 #[.agg #[.int .i64 x0, .int .i64 x1, .int .i64 y0, .int .i64 y1]] W fun e w' => e = .returned (.bool (boxF x0 x1 y0 y1)) ∧ Below W.heap.size W w') := fun W => Lib.hid (rbox_any x0 x1 y0 y1 W)
  unfold tupF
  obtain ⟨b, hb0⟩ : ∃ b, boxF x0 x1 y0 y1 = b := ⟨_, rfl⟩
  rw [hb0] at hb ⊢
  clear hb0
  by_cases h1 : 1 ≤ row
  · by_cases h2 : 1 ≤ xmin
    · by_cases h3 : xmin ≤ 4294967295
      · by_cases h4 : xmax ≤ 4294967295
        · go_enter Try.func16, Try.ntmps16
          go_wp2_with (go_at_call 24; (with_reducible refine (hb _).out.mono ?_); rintro e w1 ⟨rfl, hb1⟩)
          go_ret
          exact ⟨by simp [*], Below.step (by (repeat (first | exact Below.refl _ _ | refine Below.drew ?_ | refine below_drewN' ?_ | refine Below.alloc ?_ (by simp; try omega) _ | refine Below.setCell ?_ (by simp; try omega) _))) hb1 (by simp)⟩
        · replace h4 : ¬ xmax ≤ 4294967295 := h4
          have h5 : decide (xmax ≤ 4294967295) = false := decide_eq_false h4
          go_enter Try.func16, Try.ntmps16
          go_wp2
          all_goals go_ret
          all_goals first | exact ⟨by simp [*], by (repeat (first | exact Below.refl _ _ | refine Below.drew ?_ | refine below_drewN' ?_ | refine Below.alloc ?_ (by simp; try omega) _ | refine Below.setCell ?_ (by simp; try omega) _))⟩ | (exfalso; omega)
      · have h5 : decide (xmin ≤ 4294967295) = false := decide_eq_false h3
        go_enter Try.func16, Try.ntmps16
        go_wp2
        all_goals go_ret
        all_goals first | exact ⟨by simp [*], by (repeat (first | exact Below.refl _ _ | refine Below.drew ?_ | refine below_drewN' ?_ | refine Below.alloc ?_ (by simp; try omega) _ | refine Below.setCell ?_ (by simp; try omega) _))⟩ | (exfalso; omega)
    · have h5 : decide (1 ≤ xmin) = false := decide_eq_false h2
      go_enter Try.func16, Try.ntmps16
      go_wp2
      all_goals go_ret
      all_goals first | exact ⟨by simp [*], by (repeat (first | exact Below.refl _ _ | refine Below.drew ?_ | refine below_drewN' ?_ | refine Below.alloc ?_ (by simp; try omega) _ | refine Below.setCell ?_ (by simp; try omega) _))⟩ | (exfalso; omega)
  · have h5 : decide (1 ≤ row) = false := decide_eq_false h1
    go_enter Try.func16, Try.ntmps16
    go_wp2
    all_goals go_ret
    all_goals first | exact ⟨by simp [*], by (repeat (first | exact Below.refl _ _ | refine Below.drew ?_ | refine below_drewN' ?_ | refine Below.alloc ?_ (by simp; try omega) _ | refine Below.setCell ?_ (by simp; try omega) _))⟩ | (exfalso; omega)
end Go.Proofs.Ytfggjefncnhikaa
