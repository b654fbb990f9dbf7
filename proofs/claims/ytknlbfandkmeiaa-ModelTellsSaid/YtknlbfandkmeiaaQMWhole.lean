/- What the row of this claim reaches. No condition. -/
import Derived.Test.YtknlbfandkmeiaaQMBack
set_option linter.unusedVariables false
set_option linter.unusedSimpArgs false
namespace Go.Proofs.Ytknlbfandkmeiaa.M
open Go.RowKit Go.Proofs.YtknlbfandkmeiaaW.PrintWords Go.Proofs.YtknlbfandkmeiaaW.PrintLast Go.Proofs.YtknlbfandkmeiaaW.PrintMore
attribute [local go_sem high] eqA51
def h77 : S51 := ⟨77, ⟨0, 0, 0, 0⟩, 0⟩
def OwnH (W : World) (base : Nat) (g c : Nat) (L : List S51) : Prop := W.ownsRow base 51 6 (.slice (some ⟨g, 0, none⟩) (L.length + 1) c) (L.length + 1) (rowOf (L ++ [h77]))
theorem OwnH.L {W : World} {base g c : Nat} {L : List S51} (h : OwnH W base g c L) : OwnL W base (some ⟨g, 0, none⟩) c L := own_cut h
theorem OwnH.below {W W' : World} {base g c : Nat} {L : List S51} (h : OwnH W base g c L) (hb : Below W.heap.size W W') : OwnH W' base g c L := own_mv h fun k hk => hb.block k (h.lt k hk).2
theorem OwnH.cell {W : World} {base g c : Nat} {L : List S51} (h : OwnH W base g c L) (j : Nat) (u : Value) (hu : (cellsOf h77)[j]? = some u) : W.cell? ⟨g, L.length * 6 + j, none⟩ = some u := by
  have hc := h.cells (g := g) rfl (L.length * 6 + j) u (by rw [rowOf_snoc, List.getElem?_append_right (by rw [rowOf_len]; omega), rowOf_len, show L.length * 6 + j - L.length * 6 = j by omega]; exact hu)
  rwa [add_lit0] at hc
end Go.Proofs.Ytknlbfandkmeiaa.M
