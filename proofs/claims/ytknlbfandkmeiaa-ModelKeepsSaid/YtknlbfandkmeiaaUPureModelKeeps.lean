/- What the row of this claim reaches. No condition. -/
import Derived.Test.YtknlbfandkmeiaaUX3
set_option linter.unusedVariables false
set_option linter.unusedSimpArgs false
namespace Go.Proofs.Ytknlbfandkmeiaa.M
open Go.RowKit Go.Proofs.YtknlbfandkmeiaaW.PrintWords Go.Proofs.YtknlbfandkmeiaaW.PrintLast Go.Proofs.YtknlbfandkmeiaaW.PrintMore
theorem ModelKeeps_pure : ModelKeeps_Pure := by
  intro x0 x1 x2 _ w1 _
  unfold gazetteerlaw22_ModelKeeps.f
  rw [if_pos (by have := bounds_u32 w1.2.2.1; omega)]
end Go.Proofs.Ytknlbfandkmeiaa.M
