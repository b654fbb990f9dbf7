/- What the row of this claim reaches. No condition. -/
import Derived.Laws.BytesArg
import Derived.WalkKit
import Derived.StillTailTactics
import Derived.Deep.RegionHeld3
import Derived.Laws.Bits64b
import Derived.Test.YthlhmijgbjcloaaLKeyTellsPure09w
import Derived.Test.YthlhmijgbjcloaaLKeyTellsX1
set_option linter.unusedVariables false
set_option linter.unusedSimpArgs false
namespace Go.Proofs.Ythlhmijgbjcloaa.A
open Go.RowKit Go.Proofs.YthlhmijgbjcloaaW.PrintWords Go.Proofs.YthlhmijgbjcloaaW.PrintLast Go.Proofs.YthlhmijgbjcloaaW.PrintMore
section
variable (a0 a1 a2 a3 b0 b1 b2 b3 : Int)
theorem inside_eq (x y z : Int) : gazetteerref09_inside.f x y z = some (decide (x ≤ z ∧ z ≤ y)) := by
  unfold gazetteerref09_inside.f
  by_cases h : x ≤ z <;> simp [h]
theorem refmeets_eq (k : Nat) : gazetteerref09_Meets.f (k + 3) a0 a1 a2 a3 b0 b1 b2 b3 = some (boxB a0 a1 a2 a3 && (boxB b0 b1 b2 b3 && decide (a0 ≤ b1 ∧ b0 ≤ a1 ∧ a2 ≤ b3 ∧ b2 ≤ a3))) := by
  unfold gazetteerref09_Meets.f
  rw [rbox_eq, rbox_eq]
  cases h : boxB a0 a1 a2 a3 <;> cases g : boxB b0 b1 b2 b3 <;> try rfl
  have ih := boxB_t.mp h
  have ig := boxB_t.mp g
  simp only [Option.bind_some, if_true, Bool.not_true, gazetteerref09_Meets.j0, gazetteerref09_Meets.j1, gazetteerref09_Meets.j2, inside_eq, decide_eq_true_eq, Bool.false_eq_true, if_false, Bool.true_and]
  (repeat' split) <;> (simp only [Option.some.injEq, decide_eq_decide] at *) <;> first | omega | (rw [eq_comm, decide_eq_false_iff_not]; omega)
theorem refcovers_eq : gazetteerref09_Covers.f a0 a1 a2 a3 b0 b1 b2 b3 = some (boxB a0 a1 a2 a3 && (boxB b0 b1 b2 b3 && decide (a0 ≤ b0 ∧ b1 ≤ a1 ∧ a2 ≤ b2 ∧ b3 ≤ a3))) := by
  unfold gazetteerref09_Covers.f
  rw [rbox_eq, rbox_eq]
  cases h : boxB a0 a1 a2 a3 <;> cases g : boxB b0 b1 b2 b3 <;> try rfl
  have ih := boxB_t.mp h
  have ig := boxB_t.mp g
  simp only [Option.bind_some, if_true, inside_eq, decide_eq_true_eq, Bool.true_and]
  (repeat' split) <;> (simp only [Option.some.injEq, decide_eq_decide] at *) <;> first | omega | (rw [eq_comm, decide_eq_false_iff_not]; omega)
end
set_option maxHeartbeats 2000000 in
theorem KeyTells_pure : KeyTells_Pure := by
  rintro c ⟨a0, a1, a2, a3⟩ ⟨b0, b1, b2, b3⟩ _ _ _
  refine ⟨40, ?_⟩
  have hj : gazetteerlaw09_KeyTells.j0 40 false a0 a1 a2 a3 b0 b1 b2 b3 = some true := by
    simp only [gazetteerlaw09_KeyTells.j0, Bool.false_eq_true, if_false, meets_eq, covers_eq, union_eq, Option.bind_some]
    rw [refmeets_eq _ _ _ _ _ _ _ _ 36]
    simp only [Option.bind_some, beq_self_eq_true, if_true, refcovers_eq]
    by_cases h : boxB a0 a1 a2 a3 = true ∧ boxB b0 b1 b2 b3 = true
    · rw [refunion_eq 36 h.1 h.2, if_pos h]
      simp
    · rw [refunion_out 38 h, if_neg h]
      simp
  unfold gazetteerlaw09_KeyTells.f
  rw [wakes_ok]
  have hc : ∃ e r, key_Check.f c a0 a1 a2 a3 = some e ∧ gazetteerref09_Right.f c a0 a1 a2 a3 = some r ∧ ((e == 0) = r) ∧ (e = 0 ∨ e = 2) := by
    unfold key_Check.f gazetteerref09_Right.f
    rw [box_eq, rbox_eq]
    simp only [Option.bind_some]
    (repeat' split) <;> first | omega | exact ⟨_, _, rfl, rfl, by simp; try omega, by simp⟩
  obtain ⟨e, r, h1, h2, h3, h4⟩ := hc
  simp only [h1, h2, Option.bind_some, if_true]
  rw [if_neg (by rw [h3]; simp)]
  rcases h4 with rfl | rfl
  · simp only [if_true]
    exact hj
  · simp only [show ((2 : Int) = 0) = False by simp, if_false, bne_self_eq_false]
    exact hj
end Go.Proofs.Ythlhmijgbjcloaa.A
