/- What the row of this claim reaches. No condition. -/
import Derived.Laws.BytesArg
import Derived.WalkKit
import Derived.StillTailTactics
import Derived.Deep.RegionHeld3
import Derived.Laws.Bits64b
import Derived.Test.YthlhmijgbjcloaaLKeyFairX1
set_option linter.unusedVariables false
set_option linter.unusedSimpArgs false
section
namespace Go.Proofs.Ythlhmijgbjcloaa.A
open Go.RowKit Go.Proofs.YthlhmijgbjcloaaW.PrintWords Go.Proofs.YthlhmijgbjcloaaW.PrintLast Go.Proofs.YthlhmijgbjcloaaW.PrintMore
attribute [local go_sem] max2_int min2_int max_two min_two max_three min_three max_four min_four   -- for this text's walks alone
def KeyFair_Pure : Prop := ∀ (x0 : List (S35)), wf41 x0 → ∃ k, gazetteerlaw09_KeyFair.f k x0 = some true
end Go.Proofs.Ythlhmijgbjcloaa.A
end
