/- What the row of this claim reaches. No condition. -/
import Derived.Laws.BytesArg
import Derived.WalkKit
import Derived.StillTailTactics
import Derived.Deep.RegionHeld3
import Derived.Laws.Bits64b
import Derived.Test.YthlhmijgbjcloaaLKeyFairX0
import Derived.Test.YthlhmijgbjcloaaCPart
set_option linter.unusedVariables false
set_option linter.unusedSimpArgs false
namespace Go.Proofs.Ythlhmijgbjcloaa.A
open Go.RowKit Go.Proofs.YthlhmijgbjcloaaW.PrintWords Go.Proofs.YthlhmijgbjcloaaW.PrintLast Go.Proofs.YthlhmijgbjcloaaW.PrintMore
theorem key_Part.mono : ∀ (l : List S35) (k : Nat), LeO (key_Part.f k l) (key_Part.f (k + 1) l) := by
  intro l k
  unfold key_Part.f
  repeat' first
    | (with_reducible exact LeO.refl _)
    | (with_reducible exact key_Bound.mono _ _)
    | (with_reducible exact key_seeds.mono _ _)
    | (with_reducible exact key_sorted.mono _ _)
    | (with_reducible refine LeO.ite ?_ ?_)
    | (with_reducible refine LeO.bind ?_ (fun _ => ?_))
end Go.Proofs.Ythlhmijgbjcloaa.A
