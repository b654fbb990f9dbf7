/- What the row of this claim reaches. No condition. -/
import Derived.Laws.BytesArg
import Derived.WalkKit
import Derived.StillTailTactics
import Derived.Deep.RegionHeld3
import Derived.Laws.Bits64b
import Derived.Test.YthlhmijgbjcloaaCPure09
set_option linter.unusedVariables false
set_option linter.unusedSimpArgs false
namespace Go.Proofs.Ythlhmijgbjcloaa.A
open Go.RowKit Go.Proofs.YthlhmijgbjcloaaW.PrintWords Go.Proofs.YthlhmijgbjcloaaW.PrintLast Go.Proofs.YthlhmijgbjcloaaW.PrintMore
theorem wakes_ok : gazetteerlaw09_wakes.f 40 = some true := by kernel_rfl
section
variable (a0 a1 a2 a3 b0 b1 b2 b3 : Int)
theorem covers_eq : key_Covers.f a0 a1 a2 a3 b0 b1 b2 b3 = some (boxB a0 a1 a2 a3 && (boxB b0 b1 b2 b3 && decide (a0 ≤ b0 ∧ b1 ≤ a1 ∧ a2 ≤ b2 ∧ b3 ≤ a3))) := by
  unfold key_Covers.f
  rw [box_eq, box_eq, union_eq]
  cases boxB a0 a1 a2 a3 <;> cases boxB b0 b1 b2 b3 <;> try rfl
  simp only [Option.bind_some, if_true, and_self]
  congr 1
  unfold mn mx
  rw [Bool.eq_iff_iff]
  simp only [Bool.and_eq_true, beq_iff_eq, decide_eq_true_eq, true_and]
  constructor
  · rintro ⟨h1, h2, h3, h4⟩
    split at h1 <;> split at h2 <;> split at h3 <;> split at h4 <;> omega
  · rintro ⟨h1, h2, h3, h4⟩
    refine ⟨?_, ?_, ?_, ?_⟩ <;> split <;> omega
end
end Go.Proofs.Ythlhmijgbjcloaa.A
