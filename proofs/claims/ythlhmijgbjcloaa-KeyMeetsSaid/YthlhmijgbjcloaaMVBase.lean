/- Proof texts of this seat, bundled by a program of the session's out of its own texts and the print's: what the row reaches. No condition. -/
import Derived.Test.YthlhmijgbjcloaaMBase
import Derived.Test.YthlhmijgbjcloaaMKeep
set_option linter.unusedVariables false
set_option linter.unusedSimpArgs false
namespace Go.Proofs.Ythlhmijgbjcloaa
set_option linter.unusedVariables false
set_option linter.unusedSimpArgs false
open Go.RowKit
theorem Blk.newAt {w : World} {g : Nat} {t : TypeId} {cs : Array Value} (h : w.heap.size = g) : Blk (w.alloc (.cells cs t)) g t cs := by
  subst h; exact Blk.new _ _ _
theorem Blk.keep {W w2 : World} {g : Nat} {t : TypeId} {cs : Array Value} (h : Blk W g t cs) (hb : Below W.heap.size W w2) : Blk w2 g t cs := h.below hb h.lt
end Go.Proofs.Ythlhmijgbjcloaa
