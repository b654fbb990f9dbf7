/- What the row of this claim reaches. No condition. -/
import Derived.Test.YthlhmijgbjcloaaCSq
set_option linter.unusedVariables false
set_option linter.unusedSimpArgs false
namespace Go.Proofs.Ythlhmijgbjcloaa
open Go.RowKit Go.Proofs.YthlhmijgbjcloaaW.PrintWords
theorem Kb {W w2 : World} {g : Nat} {o : Obj} (h : Aside0 (W.heap[g]? = some o)) (hb : Below W.heap.size W w2) : Aside0 (w2.heap[g]? = some o) := by
  have hlt : g < W.heap.size := by
    rcases Nat.lt_or_ge g W.heap.size with h1 | h1
    · exact h1
    · have := h.out
      rw [Array.getElem?_eq_none h1] at this
      cases this
  exact ⟨(hb.block g hlt).trans h.out⟩
theorem Kh {w W w2 : World} (h : Aside0 (Below w.heap.size w W)) (hb : Below W.heap.size W w2) : Aside0 (Below w.heap.size w w2) := ⟨h.out.trans (hb.mono h.out.size)⟩
end Go.Proofs.Ythlhmijgbjcloaa
