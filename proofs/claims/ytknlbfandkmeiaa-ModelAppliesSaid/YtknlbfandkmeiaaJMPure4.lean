/- What the row of this claim reaches. No condition. -/
import Derived.Test.YtknlbfandkmeiaaJMPure3
import Derived.Test.YtknlbfandkmeiaaJX4
set_option linter.unusedVariables false
set_option linter.unusedSimpArgs false
namespace Go.Proofs.Ytknlbfandkmeiaa.M
open Go.RowKit Go.Proofs.YtknlbfandkmeiaaW.PrintWords Go.Proofs.YtknlbfandkmeiaaW.PrintLast Go.Proofs.YtknlbfandkmeiaaW.PrintMore
theorem wakes_true : Ev (fun k => gazetteerlaw22_wakes.f k) true := Ev.of (fun k => gazetteerlaw22_wakes.mono k) (k := 20) (by kernel_rfl)
end Go.Proofs.Ytknlbfandkmeiaa.M
