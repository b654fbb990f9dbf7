/- What the row of this claim reaches. No condition. -/
import Derived.Test.YtknlbfandkmeiaaQBase
set_option linter.unusedVariables false
set_option linter.unusedSimpArgs false
namespace Go.Proofs.Ytknlbfandkmeiaa
open Go.RowKit
section
variable {w W w2 : World} {b o : Nat} {v : Value}
theorem keep_below (h : Below w.heap.size w W) (hb : Below W.heap.size W w2) : Below w.heap.size w w2 := h.trans (hb.mono h.size)
theorem keep_below_alloc (ob : Obj) (h : Below w.heap.size w W) : Below w.heap.size w (W.alloc ob) := h.alloc h.size ob
theorem keep_set {p q : Addr} (u : Value) (h : W.cell? p = some v) (hne : p.block ≠ q.block) : (W.setCell q u).cell? p = some v := (World.cell?_setCell_other W q p u (fun e => hne (by rw [e]))).trans h
end
end Go.Proofs.Ytknlbfandkmeiaa
