/- What the row of this claim reaches. No condition. -/
import Derived.Test.YtknlbfandkmeiaaQWTab
import Derived.Test.YtknlbfandkmeiaaQVBase
set_option linter.unusedVariables false
set_option linter.unusedSimpArgs false
namespace Go.Proofs.Ytknlbfandkmeiaa
open Go.RowKit Go.Proofs.YtknlbfandkmeiaaW.PrintWords
theorem own_mv {w w1 : World} {base : Nat} {e : TypeId} {size n : Nat} {v : Value} {xs : List Value} (h : w.ownsRow base e size v n xs) (hm : ∀ k, v.ownBlock = some k → w1.heap[k]? = w.heap[k]?) : w1.ownsRow base e size v n xs := by
  refine ⟨h.1, ?_⟩
  rcases h.2 with hn | ⟨g, cap, cur, hv, hb, hg, rest⟩
  · exact .inl hn
  · exact .inr ⟨g, cap, cur, hv, hb, (hm g (by rw [hv]; rfl)).trans hg, rest⟩
section
variable {P : Program} {ops : Array Oper} {Q : Exit → Act → World → Prop} {o : Oper} {a : Act} {Kc : Act → World → Prop}
end
end Go.Proofs.Ytknlbfandkmeiaa
