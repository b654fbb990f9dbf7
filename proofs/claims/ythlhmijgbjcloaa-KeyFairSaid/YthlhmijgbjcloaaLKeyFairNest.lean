/- What the row of this claim reaches. No condition. -/
import Derived.Test.YthlhmijgbjcloaaLKeyFairWN
import Derived.Test.YthlhmijgbjcloaaCVBase
set_option linter.unusedVariables false
set_option linter.unusedSimpArgs false
namespace Go.Proofs.Ythlhmijgbjcloaa
open Go.RowKit Go.Proofs.YthlhmijgbjcloaaW.PrintWords
theorem nest_keep {α : Type} {d : Kd α} {e base n c : Nat} {ok : Nat → Prop} {xs : List α} {W w1 : World} {ad : Addr} (h : Kd.N d e W base ok (.slice (some ad) n c) xs) {g : Nat} (hg : W.grownBy w1 (some g)) (hok : ∀ k, ok k → k ≠ g) {i : Nat} {v : Value} (hx : W.cell? (ad.add i) = some v) (hp : 0 < xs.length) : w1.cell? (ad.add i) = some v := by
  obtain ⟨g', cap, e, hb, hl, _⟩ := Kd.N_form h hp
  injection e with e _ _
  injection e with e
  subst e
  have hne : g' ≠ g := hok g' (h.1 g' rfl)
  have hbk : ((⟨g', 0, none⟩ : Addr).add i).block = g' := block_of_add _ _
  exact (World.cell?_of_block (hg.block _ (by rw [hbk]; exact hl) (fun e => hne (by rw [hbk] at e; injection e)))).trans hx
end Go.Proofs.Ythlhmijgbjcloaa
