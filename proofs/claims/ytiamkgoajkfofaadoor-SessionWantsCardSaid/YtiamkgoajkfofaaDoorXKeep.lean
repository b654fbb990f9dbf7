/- What the row of this claim reaches. No condition. -/
import Derived.Test.YtiamkgoajkfofaaDoorXBase
set_option linter.unusedVariables false
set_option linter.unusedSimpArgs false
namespace Go.Proofs.YtiamkgoajkfofaaDoor
open Go.RowKit
section
variable {w W w2 : World} {b o : Nat} {v : Value}
theorem keep_below (h : Below w.heap.size w W) (hb : Below W.heap.size W w2) : Below w.heap.size w w2 := h.trans (hb.mono h.size)
theorem keep_alloc {p : Addr} (ob : Obj) (h : W.cell? p = some v) : (W.alloc ob).cell? p = some v := (World.cell?_alloc_lt _ _ _ (block_lt_of_cell h)).trans h
theorem keep_below_alloc (ob : Obj) (h : Below w.heap.size w W) : Below w.heap.size w (W.alloc ob) := h.alloc h.size ob
theorem lt_cell (h : W.cell? ⟨b, o, none⟩ = some v) : b < W.heap.size := block_lt_of_cell h
end
end Go.Proofs.YtiamkgoajkfofaaDoor
