/- What the row of this claim reaches. No condition. -/
import Derived.Deep.RegionHeld3
import Derived.Laws.CopyOwn
import Derived.Laws.BytesArg
import Derived.WalkKit
import Derived.Test.YthlhmijgbjcloaaCWide
import Derived.Test.YthlhmijgbjcloaaCKeep
set_option linter.unusedVariables false
set_option linter.unusedSimpArgs false
namespace Go.Proofs.Ythlhmijgbjcloaa
open Go.RowKit
theorem Blk.newAt {w : World} {g : Nat} {t : TypeId} {cs : Array Value} (h : w.heap.size = g) : Blk (w.alloc (.cells cs t)) g t cs := by
  subst h; exact Blk.new _ _ _
end Go.Proofs.Ythlhmijgbjcloaa
