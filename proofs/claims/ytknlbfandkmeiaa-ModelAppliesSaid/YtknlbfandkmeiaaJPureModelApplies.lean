/- What the row of this claim reaches. No condition. -/
import Derived.Test.YtknlbfandkmeiaaJX5
set_option linter.unusedVariables false
set_option linter.unusedSimpArgs false
namespace Go.Proofs.Ytknlbfandkmeiaa.M
open Go.RowKit Go.Proofs.YtknlbfandkmeiaaW.PrintWords Go.Proofs.YtknlbfandkmeiaaW.PrintLast Go.Proofs.YtknlbfandkmeiaaW.PrintMore
theorem ModelApplies_pure : ModelApplies_Pure := by
  intro x0 x1 x2 w0 w1 w2
  unfold gazetteerlaw22_ModelApplies.f
  rw [if_pos ⟨fun x hx => by have := bounds_u32 (w0.2 x hx).1; omega, fun o ho => by have := bounds_u32 (w2.2 o ho).2.2.1; omega⟩]
end Go.Proofs.Ytknlbfandkmeiaa.M
