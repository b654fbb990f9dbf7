/- What the row of this claim reaches. No condition. -/
import Derived.Deep.Slices
import Derived.Test.YtiamkgoajkfofaaDoorXRowKit
import Derived.Test.YtiamkgoajkfofaaDoorXWWords
set_option linter.unusedVariables false
set_option linter.unusedSimpArgs false
namespace Go.Proofs.YtiamkgoajkfofaaDoor
open Go.ChangeShapes Go.WideShapes Go.ChangeAt Go.RowKit Go.Deep
open Go.Proofs.YtiamkgoajkfofaaDoorW.PrintWords (Kd)
def Opens {α : Type} (t : TypeId) (d : Kd α) (wf : α → Prop) : Prop :=
  Tryd.prog.cellsOf t = d.sz ∧ ∀ (H : Type) (enc : TypeId × Value → H) (W : World) (base : Nat) (spare : Nat → Bool) (held : Bool) (fuel : Nat) (cs : List Value) (x : DataW H × List MemPlace),
    DataW.trod enc Tryd.prog W base spare held fuel t cs = some x → ∃ a, d.K W a cs ∧ wf a
theorem Opens.int {t : TypeId} {k : IntKind} (h : Tryd.prog.underlying t = some (.int k)) (hc : Tryd.prog.cellsOf t = 1) : Opens t (Kd.int k) (fun n => (Lit.int k n).wf = true) :=
  ⟨hc, fun H enc W base spare held fuel cs x hx => by
    obtain ⟨n, rfl, _, hw⟩ := DataW.trod_int h hx
    exact ⟨n, rfl, hw⟩⟩
theorem Opens.bool {t : TypeId} (h : Tryd.prog.underlying t = some .bool) (hc : Tryd.prog.cellsOf t = 1) : Opens t Kd.bool (fun _ => True) :=
  ⟨hc, fun H enc W base spare held fuel cs x hx => by
    cases fuel with
    | zero => simp [DataW.trod] at hx
    | succ n =>
      obtain ⟨b, rfl⟩ : ∃ b, cs = [.bool b] := by
        unfold DataW.trod at hx
        rw [h] at hx
        split at hx <;> simp_all
      exact ⟨b, rfl, trivial⟩⟩
theorem choose_get {α : Type} {p : Nat → α → Prop} : ∀ {n : Nat}, (∀ i, i < n → ∃ a, p i a) → ∃ l : List α, l.length = n ∧ ∀ i a, l[i]? = some a → p i a
  | 0, _ => ⟨[], rfl, fun i a h => by simp at h⟩
  | n + 1, h => by
    obtain ⟨l, hl, hp⟩ := choose_get (n := n) (fun i hi => h i (by omega))
    obtain ⟨a, ha⟩ := h n (by omega)
    refine ⟨l ++ [a], by simp [hl], fun i b hb => ?_⟩
    rcases Nat.lt_trichotomy i n with hi | hi | hi
    · rw [List.getElem?_append_left (by omega)] at hb
      exact hp i b hb
    · subst hi
      rw [List.getElem?_append_right (by omega), hl] at hb
      simp at hb
      subst hb
      exact ha
    · rw [List.getElem?_eq_none (by simp; omega)] at hb
      cases hb
theorem Opens.slice {α : Type} {t e : TypeId} {d : Kd α} {wf : α → Prop} (h : Tryd.prog.underlying t = some (.slice e)) (hc : Tryd.prog.cellsOf t = 1) (he : Opens e d wf) :
    Opens t (Kd.slice e d) (fun l => l.length ≤ maxLen ∧ ∀ a ∈ l, wf a) :=
  ⟨hc, fun H enc W base spare held fuel cs x hx => by
    rcases open_slice h hx with ⟨rfl, _⟩ | ⟨a, len, cap, m, n, D, Pl, rfl, hb, hl, hm, hmm, _, hel⟩
    · exact ⟨[], ⟨none, 0, rfl, Nat.le_refl _, rfl, by simp, fun h0 => absurd h0 (Nat.lt_irrefl 0)⟩, by simp, fun a ha => by cases ha⟩
    · have hlm : len ≤ m := by rw [hmm]; split <;> omega
      obtain ⟨l, hll, hp⟩ := choose_get (n := len) (p := fun i y => ∃ c : List Value, c.length = d.sz ∧ d.K W y c ∧ wf y ∧ ∀ j u, c[j]? = some u → W.cell? (a.add (i * d.sz + j)) = some u) (fun i hi => by
        obtain ⟨cs', h1, h2⟩ := hel i (by omega)
        obtain ⟨y, hk, hw⟩ := he.2 _ _ _ _ _ _ _ _ _ h2
        obtain ⟨_, hlen, hcell⟩ := World.cells?_some h1
        rw [he.1] at hlen hcell
        refine ⟨y, cs', hlen, hk, hw, fun j u hu => ?_⟩
        have hj : j < cs'.length := (List.getElem?_eq_some_iff.1 hu).1
        have := hcell j (by omega)
        rw [add_add, hu] at this
        exact this)
      subst hll
      refine ⟨l, ⟨some a, cap, rfl, hl, rfl, ?_, fun _ => ⟨a, rfl, fun j y hy => ?_⟩⟩, by omega, fun y hy => ?_⟩
      · unfold maxLen at hm
        omega
      · obtain ⟨c, h1, h2, _, h3⟩ := hp j y hy
        exact ⟨c, h1, h2, h3⟩
      · obtain ⟨j, hj, rfl⟩ := List.mem_iff_getElem.1 hy
        obtain ⟨_, _, _, hw, _⟩ := hp j _ (List.getElem?_eq_getElem hj)
        exact hw⟩
theorem Opens.iso {α β : Type} {t : TypeId} {d : Kd α} {wf : α → Prop} (f : β → α) (g : α → β) (hg : ∀ a, f (g a) = a) (h : Opens t d wf) : Opens t (Kd.iso d f) (fun b => wf (f b)) :=
  ⟨h.1, fun H enc W base spare held fuel cs x hx => by
    obtain ⟨a, hk, hw⟩ := h.2 _ _ _ _ _ _ _ _ _ hx
    exact ⟨g a, by show d.K W (f (g a)) cs; rw [hg]; exact hk, by show wf (f (g a)); rw [hg]; exact hw⟩⟩
def OpensF {α : Type} (fs : List Field) (off : Nat) (d : Kd α) (wf : α → Prop) : Prop :=
  ∀ (H : Type) (enc : TypeId × Value → H) (W : World) (base : Nat) (spare : Nat → Bool) (held : Bool) (n : Nat) (cs : List Value), cs.length = off + d.sz →
    (∀ f ∈ fs, ∃ y, DataW.trod enc Tryd.prog W base spare held n f.type ((cs.drop f.offset).take (Tryd.prog.cellsOf f.type)) = some y) → ∃ a, d.K W a (cs.drop off) ∧ wf a
theorem OpensF.last {α : Type} {f : Field} {off : Nat} {d : Kd α} {wf : α → Prop} (ho : f.offset = off) (h : Opens f.type d wf) : OpensF [f] off d wf := by
  intro H enc W base spare held n cs hl hf
  obtain ⟨y, hy⟩ := hf f (by simp)
  rw [ho, h.1, List.take_of_length_le (by rw [List.length_drop, hl]; omega)] at hy
  exact h.2 _ _ _ _ _ _ _ _ _ hy
theorem OpensF.cons {α β : Type} {f : Field} {fs : List Field} {off : Nat} {d : Kd α} {e : Kd β} {wf : α → Prop} {wg : β → Prop} (ho : f.offset = off) (h : Opens f.type d wf) (hr : OpensF fs (off + d.sz) e wg) :
    OpensF (f :: fs) off (Kd.pair d e) (fun a => wf a.1 ∧ wg a.2) := by
  intro H enc W base spare held n cs hl hf
  obtain ⟨y, hy⟩ := hf f (by simp)
  rw [ho, h.1] at hy
  obtain ⟨a, ha, hwa⟩ := h.2 _ _ _ _ _ _ _ _ _ hy
  have hl' : cs.length = off + (d.sz + e.sz) := hl
  obtain ⟨b, hb, hwb⟩ := hr H enc W base spare held n cs (by omega) (fun g hg => hf g (by simp [hg]))
  refine ⟨(a, b), ⟨(cs.drop off).take d.sz, cs.drop (off + d.sz), ?_, ha, hb⟩, hwa, hwb⟩
  rw [← List.drop_drop, List.take_append_drop]
theorem Opens.struct {α : Type} {t : TypeId} {fs : Array Field} {d : Kd α} {wf : α → Prop} (h : Tryd.prog.underlying t = some (.struct fs)) (hc : Tryd.prog.cellsOf t = d.sz) (hf : OpensF fs.toList 0 d wf) : Opens t d wf :=
  ⟨hc, fun H enc W base spare held fuel cs x hx => by
    obtain ⟨xs, n, _, _, hl, hxl, hg⟩ := DataW.trod_struct h hx
    obtain ⟨a, ha, hw⟩ := hf H enc W base spare held n cs (by omega) (fun f hfm => by
      obtain ⟨i, hi, rfl⟩ := List.mem_iff_getElem.1 hfm
      have hi' : i < fs.size := by simpa using hi
      have := hg i _ (by rw [Array.getElem?_eq_getElem hi'])
      rw [List.getElem?_eq_getElem (by omega)] at this
      exact ⟨_, by simpa using this⟩)
    exact ⟨a, by simpa using ha, hw⟩⟩
section
variable {H : Type} {enc : TypeId × Value → H} {W : World} {base b0 : Nat} {spare : Nat → Bool} {held : Bool} {v : Value} {D : DataW H} {p : List MemPlace} {α : Type} {t : TypeId} {d : Kd α} {wf : α → Prop}
theorem Opens.val (ho : Opens t d wf) (h : DataW.Trod enc Tryd.prog W base spare held t v D p) : ∃ a, d.K W a v.cells.toList ∧ wf a := by
  obtain ⟨fuel, hf⟩ := h
  exact ho.2 _ _ _ _ _ _ _ _ _ hf
set_option maxRecDepth 10000 in
theorem Opens.agg (ho : Opens t d wf) {fs : Array Field} (hu : Tryd.prog.underlying t = some (.struct fs)) (hv : Value.okWide Tryd.prog W .any b0 t v) (h : DataW.Trod enc Tryd.prog W base spare held t v D p) :
    ∃ a cs, v = .agg cs ∧ d.K W a cs.toList ∧ wf a := by
  unfold Value.okWide at hv
  rw [hu] at hv
  obtain ⟨cs, rfl, _, _⟩ := hv
  obtain ⟨a, ha, hw⟩ := ho.val h
  exact ⟨a, cs, rfl, ha, hw⟩
end
end Go.Proofs.YtiamkgoajkfofaaDoor
