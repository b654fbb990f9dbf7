/- What the row of this claim reaches. No condition. -/
import Derived.Laws.BytesArg
import Derived.WalkKit
import Derived.Test.YthlhmijgbjcloaaGPure09
import Derived.Test.YthlhmijgbjcloaaGX6
set_option linter.unusedVariables false
set_option linter.unusedSimpArgs false
namespace Go.Proofs.Ythlhmijgbjcloaa.A
open Go.RowKit Go.Proofs.YthlhmijgbjcloaaW.PrintWords Go.Proofs.YthlhmijgbjcloaaW.PrintLast Go.Proofs.YthlhmijgbjcloaaW.PrintMore
theorem wakes_ok : gazetteerlaw09_wakes.f 40 = some true:=by kernel_rfl
section
variable (a0 a1 a2 a3 b0 b1 b2 b3 : Int)
end
end Go.Proofs.Ythlhmijgbjcloaa.A
