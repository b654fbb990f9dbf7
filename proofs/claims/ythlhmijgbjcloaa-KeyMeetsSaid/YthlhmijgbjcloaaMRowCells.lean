/- Proof texts of this seat, bundled by a program of the session's out of its own texts and the print's: what the row reaches. No condition. -/
import Derived.Test.YthlhmijgbjcloaaMBits
import Derived.StillTailTactics
import Derived.Deep.MidRow
set_option linter.unusedVariables false
set_option linter.unusedSimpArgs false
namespace Go.Proofs.Ythlhmijgbjcloaa
set_option linter.unusedVariables false
set_option linter.unusedSimpArgs false
open Go.RowKit
@[irreducible] def fl (f : Nat → Int) : List Value := (List.range 260).map fun i => Value.int .i64 (f i)
end Go.Proofs.Ythlhmijgbjcloaa
