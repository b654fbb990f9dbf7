/- What the row of this claim reaches. No condition. -/
import Derived.Laws.BytesArg
import Derived.WalkKit
import Derived.StillTailTactics
import Derived.Deep.RegionHeld3
import Derived.Laws.Bits64b
import Derived.Test.YthlhmijgbjcloaaLKeyTellsPure09
import Derived.Test.YthlhmijgbjcloaaCPure09w
set_option linter.unusedVariables false
set_option linter.unusedSimpArgs false
namespace Go.Proofs.Ythlhmijgbjcloaa.A
open Go.RowKit Go.Proofs.YthlhmijgbjcloaaW.PrintWords Go.Proofs.YthlhmijgbjcloaaW.PrintLast Go.Proofs.YthlhmijgbjcloaaW.PrintMore
section
variable (a0 a1 a2 a3 b0 b1 b2 b3 : Int)
theorem meets_eq : key_Meets.f a0 a1 a2 a3 b0 b1 b2 b3 = some (boxB a0 a1 a2 a3 && (boxB b0 b1 b2 b3 && decide (a0 ≤ b1 ∧ b0 ≤ a1 ∧ a2 ≤ b3 ∧ b2 ≤ a3))) := by
  unfold key_Meets.f
  rw [box_eq, box_eq]
  cases boxB a0 a1 a2 a3 <;> cases boxB b0 b1 b2 b3 <;> try rfl
  simp only [Option.bind_some, if_true]
  by_cases c1 : a0 ≤ b1 <;> by_cases c2 : b0 ≤ a1 <;> by_cases c3 : a2 ≤ b3 <;> simp [c1, c2, c3]
end
end Go.Proofs.Ythlhmijgbjcloaa.A
