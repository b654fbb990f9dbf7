/- What the row of this claim reaches. No condition. -/
import Derived.Laws.BytesArg
import Derived.WalkKit
import Derived.StillTailTactics
import Derived.Deep.RegionHeld3
import Derived.Laws.Bits64b
import Derived.Test.YthlhmijgbjcloaaCX5
set_option linter.unusedVariables false
set_option linter.unusedSimpArgs false
namespace Go.Proofs.Ythlhmijgbjcloaa.A
open Go.RowKit Go.Proofs.YthlhmijgbjcloaaW.PrintWords Go.Proofs.YthlhmijgbjcloaaW.PrintLast Go.Proofs.YthlhmijgbjcloaaW.PrintMore
def boxB (a b c d : Int) : Bool := decide (a ≤ b ∧ c ≤ d)
theorem boxB_t {a b c d : Int} : boxB a b c d = true ↔ a ≤ b ∧ c ≤ d := by unfold boxB; simp
section
variable (a0 a1 a2 a3 b0 b1 b2 b3 : Int)
theorem box_eq : key_box.f a0 a1 a2 a3 = some (boxB a0 a1 a2 a3) := by
  unfold key_box.f boxB
  by_cases h : a0 ≤ a1 <;> simp [h]
theorem union_eq : key_Union.f a0 a1 a2 a3 b0 b1 b2 b3 = some (if boxB a0 a1 a2 a3 = true ∧ boxB b0 b1 b2 b3 = true then (mn a0 b0, mx a1 b1, mn a2 b2, mx a3 b3) else (0, 0, 0, 0)) := by
  unfold key_Union.f
  rw [box_eq, box_eq]
  cases boxB a0 a1 a2 a3 <;> cases boxB b0 b1 b2 b3 <;> rfl
end
section
variable {a0 a1 a2 a3 b0 b1 b2 b3 : Int}
theorem lo_isU (n : Int) : isU (lo64 n) := by unfold isU lo64; omega
end
section
variable {a0 a1 a2 a3 b0 b1 b2 b3 c0 c1 c2 c3 : Int}
end
end Go.Proofs.Ythlhmijgbjcloaa.A
