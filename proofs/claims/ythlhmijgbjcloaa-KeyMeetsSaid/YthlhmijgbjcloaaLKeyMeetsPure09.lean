/- What the row of this claim reaches. No condition. -/
import Derived.Test.YthlhmijgbjcloaaCX2
import Derived.Test.YthlhmijgbjcloaaCKp
import Derived.Test.YthlhmijgbjcloaaCX0
import Derived.Test.YthlhmijgbjcloaaCX1
import Derived.Test.YthlhmijgbjcloaaCOpen
import Derived.Test.YthlhmijgbjcloaaCRowKit
import Derived.Test.YthlhmijgbjcloaaCBase
import Derived.Test.YthlhmijgbjcloaaRows
import Derived.WalkKit
import Derived.WalkSpells
import Derived.WalkLawsBesides
import Derived.Deep.AppendLies
import Derived.Deep.Draws
import Derived.Deep.QuietTactic
import Derived.BigQuiet
import Derived.BigRegion
import Derived.Deep.LoopGhost
import Derived.Deep.DeepCutAuto
import Derived.Deep.WholeRow
import Derived.Maps.AppendAt
import Derived.Lib.Hide
import Derived.ProofKit
import Derived.ChangeSame
import Derived.Deep.Slices
import Derived.Deep.Fields
import Derived.Lib.SmallJoins
import Derived.Deep.DeepFit
import Derived.OpenShut
import Derived.Test.YthlhmijgbjcloaaCWWords
import Derived.Below
import Derived.OwnWalk
import Derived.Laws.BytesArg
import Derived.Laws.MakeOwn
import Derived.Laws.OwnMore
import Derived.Deep.OwnRows
import Derived.Tactics
import Derived.Lib.ConvBytes
import Derived.Laws.Slices
import Derived.KernelRfl
import Derived.RowKit3
import Derived.WideLaws
import Derived.Deep.CutBlock
import Derived.Deep.RegionHeld3
import Derived.Laws.Rows
import Derived.Lib.AppendStr
import Derived.ArgAppend
import Derived.Laws.IdiomCopy
import Derived.RowKit
import Derived.Test.YthlhmijgbjcloaaCX5
import Derived.Test.YthlhmijgbjcloaaCPure09
set_option linter.unusedVariables false
set_option linter.unusedSimpArgs false
namespace Go.Proofs.Ythlhmijgbjcloaa.A
open Go.RowKit Go.Proofs.YthlhmijgbjcloaaW.PrintWords Go.Proofs.YthlhmijgbjcloaaW.PrintLast Go.Proofs.YthlhmijgbjcloaaW.PrintMore
theorem boxB_f {a b c d : Int} : boxB a b c d = false ↔ ¬ (a ≤ b ∧ c ≤ d) := by unfold boxB; simp
section
variable (a0 a1 a2 a3 b0 b1 b2 b3 : Int)
end
section
variable {a0 a1 a2 a3 b0 b1 b2 b3 : Int}
end
section
variable {a0 a1 a2 a3 b0 b1 b2 b3 c0 c1 c2 c3 : Int}
end
end Go.Proofs.Ythlhmijgbjcloaa.A
