/- What the row of this claim reaches. No condition. -/
import Derived.Test.YtknlbfandkmeiaaQX6
set_option linter.unusedVariables false
set_option linter.unusedSimpArgs false
namespace Go.Proofs.Ytknlbfandkmeiaa.M
open Go.RowKit Go.Proofs.YtknlbfandkmeiaaW.PrintWords Go.Proofs.YtknlbfandkmeiaaW.PrintLast Go.Proofs.YtknlbfandkmeiaaW.PrintMore
theorem ModelTells_pure : ModelTells_Pure := by
  intro x0 x1 x2 w0 w1 w2
  unfold gazetteerlaw22_ModelTells.f
  rw [if_pos fun t ht x hx => by have := bounds_u32 (((w0.2 t ht).2 x hx).1); omega]
end Go.Proofs.Ytknlbfandkmeiaa.M
