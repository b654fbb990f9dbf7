/- What the row of this claim reaches. No condition. -/
import Derived.Test.YtknlbfandkmeiaaQMPure2
set_option linter.unusedVariables false
set_option linter.unusedSimpArgs false
namespace Go.Proofs.Ytknlbfandkmeiaa.M
open Go.RowKit Go.Proofs.YtknlbfandkmeiaaW.PrintWords Go.Proofs.YtknlbfandkmeiaaW.PrintLast Go.Proofs.YtknlbfandkmeiaaW.PrintMore
theorem key_box {a b c d e : Int} (h : keyF a b c d e = true) : boxF b c d e = true := by
  unfold keyF at h
  simp only [Bool.and_eq_true] at h
  exact h.1
end Go.Proofs.Ytknlbfandkmeiaa.M
