/- Cells: the given statement, out of its plain statement and the walk of its code. No condition. -/
import Derived.Deep.MidRow
import Derived.Laws.BytesArg
import Derived.WalkKit
import Derived.StillTailTactics
import Derived.Test.YthlhmijgbjcloaaCBits
set_option linter.unusedVariables false
set_option linter.unusedSimpArgs false
namespace Go.Proofs.Ythlhmijgbjcloaa
open Go.RowKit
@[irreducible] def fl (f : Nat → Int) : List Value := (List.range 260).map fun i => Value.int .i64 (f i)
end Go.Proofs.Ythlhmijgbjcloaa
