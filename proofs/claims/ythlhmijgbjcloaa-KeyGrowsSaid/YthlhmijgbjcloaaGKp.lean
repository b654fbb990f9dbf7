/- What the row of this claim reaches. No condition. -/
import Derived.Test.YthlhmijgbjcloaaGSq
set_option linter.unusedVariables false
set_option linter.unusedSimpArgs false
namespace Go.Proofs.Ythlhmijgbjcloaa
open Go.RowKit Go.Proofs.YthlhmijgbjcloaaW.PrintWords
theorem Kb {W w2 : World} {g : Nat} {o : Obj} (h : Aside0 (W.heap[g]? = some o)) (hb : Below W.heap.size W w2) : Aside0 (w2.heap[g]? = some o) := by
  have hlt : g < W.heap.size := by
    rcases Nat.lt_or_ge g W.heap.size with h1 | h1
    · exact h1
    · have := h.out
      rw [Array.getElem?_eq_none h1] at this
      cases this
  exact ⟨(hb.block g hlt).trans h.out⟩
theorem Kh {w W w2 : World} (h : Aside0 (Below w.heap.size w W)) (hb : Below W.heap.size W w2) : Aside0 (Below w.heap.size w w2) := ⟨h.out.trans (hb.mono h.out.size)⟩
section
variable {w W w2 : World} {g g' n : Nat} {o : Obj}
theorem klt (h : Aside0 (W.heap[g]? = some o)) : g < W.heap.size := by
  rcases Nat.lt_or_ge g W.heap.size with h1 | h1
  · exact h1
  · have := h.out
    rw [Array.getElem?_eq_none h1] at this
    cases this
theorem Kl (hg : g' = W.heap.size) (h : Aside0 (W.heap[g]? = some o)) : Aside0 (g ≠ g') := ⟨by rw [hg]; exact Nat.ne_of_lt (klt h)⟩
theorem Km (hg : g' = W.heap.size) (h : Aside0 (W.heap[g]? = some o)) : Aside0 (g' ≠ g) := ⟨by rw [hg]; exact Nat.ne_of_gt (klt h)⟩
theorem Kz (hg : g' = W.heap.size) (h : Aside0 (Below w.heap.size w W)) : Aside0 (w.heap.size ≤ g') := ⟨by rw [hg]; exact h.out.size⟩
theorem Ke {p : Addr} {v : Value} (h : w.cell? p = some v) (hG : Aside0 (w.heap.size ≤ g)) : p.block ≠ g := Nat.ne_of_lt (Nat.lt_of_lt_of_le (World.block_lt_of_cell? _ _ h) hG.out)
end
end Go.Proofs.Ythlhmijgbjcloaa
