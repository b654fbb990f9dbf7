/- Proof texts of this seat, bundled by a program of the session's out of its own texts and the print's: what the row reaches. No condition. -/
import Derived.Test.YthlhmijgbjcloaaMBase
import Derived.Test.YthlhmijgbjcloaaMKeep
import Derived.Test.YthlhmijgbjcloaaMWideMath
import Derived.Laws.BytesArg
import Derived.WalkKit
import Derived.Test.YthlhmijgbjcloaaMWide
import Derived.Deep.RegionHeld3
import Derived.Laws.CopyOwn
set_option linter.unusedVariables false
set_option linter.unusedSimpArgs false
namespace Go.Proofs.Ythlhmijgbjcloaa
set_option linter.unusedVariables false
set_option linter.unusedSimpArgs false
open Go.RowKit
theorem Blk.newAt {w : World} {g : Nat} {t : TypeId} {cs : Array Value} (h : w.heap.size = g) : Blk (w.alloc (.cells cs t)) g t cs := by
  subst h; exact Blk.new _ _ _
end Go.Proofs.Ythlhmijgbjcloaa
