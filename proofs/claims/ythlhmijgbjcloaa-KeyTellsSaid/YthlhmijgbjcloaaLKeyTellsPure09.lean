/- What the row of this claim reaches. No condition. -/
import Derived.Laws.BytesArg
import Derived.WalkKit
import Derived.StillTailTactics
import Derived.Deep.RegionHeld3
import Derived.Laws.Bits64b
import Derived.Test.YthlhmijgbjcloaaLKeyTellsX0
import Derived.Test.YthlhmijgbjcloaaCPure09
set_option linter.unusedVariables false
set_option linter.unusedSimpArgs false
namespace Go.Proofs.Ythlhmijgbjcloaa.A
open Go.RowKit Go.Proofs.YthlhmijgbjcloaaW.PrintWords Go.Proofs.YthlhmijgbjcloaaW.PrintLast Go.Proofs.YthlhmijgbjcloaaW.PrintMore
section
variable (a0 a1 a2 a3 b0 b1 b2 b3 : Int)
theorem rbox_eq : gazetteerref09_Box.f a0 a1 a2 a3 = some (boxB a0 a1 a2 a3) := by
  unfold gazetteerref09_Box.f boxB
  by_cases h : a0 ≤ a1 <;> simp [h]
end
section
variable {a0 a1 a2 a3 b0 b1 b2 b3 : Int}
theorem refunion_eq (k : Nat) (hb : boxB a0 a1 a2 a3 = true) (gb : boxB b0 b1 b2 b3 = true) : gazetteerref09_Union.f (k + 3) a0 a1 a2 a3 b0 b1 b2 b3 = some (mn a0 b0, mx a1 b1, mn a2 b2, mx a3 b3) := by
  unfold gazetteerref09_Union.f
  rw [rbox_eq, rbox_eq, hb, gb]
  simp only [Option.bind_some, if_true, Bool.not_true, gazetteerref09_Union.j0, gazetteerref09_Union.j1, gazetteerref09_Union.j2, Bool.false_eq_true, if_false]
  unfold mn mx
  by_cases c1 : b0 < a0 <;> by_cases c2 : a1 < b1 <;> by_cases c3 : b2 < a2 <;> by_cases c4 : a3 < b3 <;> simp [c1, c2, c3, c4]
theorem refunion_out (k : Nat) (hb : ¬ (boxB a0 a1 a2 a3 = true ∧ boxB b0 b1 b2 b3 = true)) : gazetteerref09_Union.f (k + 1) a0 a1 a2 a3 b0 b1 b2 b3 = some (0, 0, 0, 0) := by
  unfold gazetteerref09_Union.f
  rw [rbox_eq, rbox_eq]
  cases h : boxB a0 a1 a2 a3 <;> cases g : boxB b0 b1 b2 b3 <;> first | rfl | exact absurd ⟨h, g⟩ hb
end
section
variable {a0 a1 a2 a3 b0 b1 b2 b3 c0 c1 c2 c3 : Int}
end
end Go.Proofs.Ythlhmijgbjcloaa.A
