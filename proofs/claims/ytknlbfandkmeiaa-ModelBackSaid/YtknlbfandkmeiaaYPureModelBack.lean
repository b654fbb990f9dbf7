/- What the row of this claim reaches. No condition. -/
import Derived.Test.YtknlbfandkmeiaaYX3
set_option linter.unusedVariables false
set_option linter.unusedSimpArgs false
namespace Go.Proofs.Ytknlbfandkmeiaa.M
open Go.RowKit Go.Proofs.YtknlbfandkmeiaaW.PrintWords Go.Proofs.YtknlbfandkmeiaaW.PrintLast Go.Proofs.YtknlbfandkmeiaaW.PrintMore
theorem ModelBack_pure : ModelBack_Pure := by
  intro x0 x1 _ w1
  unfold gazetteerlaw22_ModelBack.f
  rw [if_pos (by have := bounds_u32 w1.1; omega)]
end Go.Proofs.Ytknlbfandkmeiaa.M
