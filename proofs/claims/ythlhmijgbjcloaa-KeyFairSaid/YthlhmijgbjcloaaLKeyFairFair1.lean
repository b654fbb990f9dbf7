/- What the row of this claim reaches. No condition. -/
import Derived.Laws.BytesArg
import Derived.WalkKit
import Derived.StillTailTactics
import Derived.Deep.RegionHeld3
import Derived.Laws.Bits64b
import Derived.Test.YthlhmijgbjcloaaLKeyFairPure09
set_option linter.unusedVariables false
set_option linter.unusedSimpArgs false
namespace Go.Proofs.Ythlhmijgbjcloaa.A
open Go.RowKit Go.Proofs.YthlhmijgbjcloaaW.PrintWords Go.Proofs.YthlhmijgbjcloaaW.PrintLast Go.Proofs.YthlhmijgbjcloaaW.PrintMore
theorem Ev.ret {α : Type} {g : Nat → Option α} {r : α} (h : ∀ k, g (k + 1) = some r) : Ev g r := ⟨1, fun k hk => by
  obtain ⟨k, rfl⟩ : ∃ m, k = m + 1 := ⟨k - 1, by omega⟩
  exact h k⟩
theorem Ev.all {α : Type} {a : Option α} {r : α} (h : a = some r) : Ev (fun _ => a) r := ⟨0, fun _ _ => h⟩
abbrev at_ (L : List Int) (p : Nat) : Int := L.getD p 0
theorem g_set (L : List Int) (a b : Nat) (x : Int) (h : a < L.length) : at_ (L.set a x) b = if b = a then x else at_ L b := by
  unfold at_
  rw [List.getD_eq_getElem?_getD, List.getElem?_set]
  by_cases e : b = a
  · subst e
    simp [h]
  · rw [if_neg (fun h => e h.symm), if_neg e, List.getD_eq_getElem?_getD]
def Pre (L : List Int) (n : Nat) : Prop := ∀ p q, p < q → q < n → q < L.length → at_ L p ≤ at_ L q
def But (L : List Int) (i t : Nat) : Prop := (∀ p q, p < q → q ≤ i → p ≠ t → q ≠ t → at_ L p ≤ at_ L q) ∧ ∀ q, t < q → q ≤ i → at_ L t ≤ at_ L q
theorem rd_at (L : List Int) (p : Nat) : rd L (p : Int) = at_ L p := rfl
theorem wrap_id {z : Int} (h : -9223372036854775808 ≤ z) (h2 : z < 9223372036854775808) : wrap64 z = z := by
  unfold wrap64
  omega
def swp (L : List Int) (t : Nat) : List Int := (L.set (t + 1) (at_ L t)).set t (at_ L (t + 1))
theorem swp_len (L : List Int) (t : Nat) : (swp L t).length = L.length := by simp [swp]
theorem swp_perm {L : List Int} {t : Nat} (h : t + 1 < L.length) : (swp L t).Perm L := by
  have := List.set_set_perm (i := t + 1) (j := t) h (by omega : t < L.length)
  unfold swp at_
  rw [List.getD_eq_getElem?_getD, List.getD_eq_getElem?_getD, List.getElem?_eq_getElem h, List.getElem?_eq_getElem (by omega : t < L.length)]
  exact this
theorem swp_at {L : List Int} {t : Nat} (h : t + 1 < L.length) (p : Nat) : at_ (swp L t) p = if p = t then at_ L (t + 1) else if p = t + 1 then at_ L t else at_ L p := by
  unfold swp
  rw [g_set _ _ _ _ (by simp; omega), g_set _ _ _ _ h]
theorem swp_but {L : List Int} {i t : Nat} (h : t + 1 ≤ i) (hi : i < L.length) (hb : But L i (t + 1)) (hlt : at_ L (t + 1) < at_ L t) : But (swp L t) i t := by
  obtain ⟨h1, h2⟩ := hb
  have ha := swp_at (L := L) (t := t) (by omega)
  refine ⟨fun p q hpq hq hp hqt => ?_, fun q hq hqi => ?_⟩
  · rw [ha, ha, if_neg hp, if_neg hqt]
    split
    · rename_i e
      rw [if_neg (by omega)]
      exact h1 t q (by omega) hq (by omega) (by omega)
    · rename_i e
      split
      · exact h1 p t (by omega) (by omega) e (by omega)
      · rename_i e2
        exact h1 p q hpq hq e e2
  · rw [ha, ha, if_pos rfl, if_neg (by omega)]
    split
    · omega
    · exact h2 q (by omega) hqi
theorem but_pre {L : List Int} {i t : Nat} (hb : But L i t) (ht : t ≤ i) (h0 : t = 0 ∨ at_ L (t - 1) ≤ at_ L t) : Pre L (i + 1) := by
  intro p q hpq hq hl
  by_cases e1 : p = t
  · subst e1
    exact hb.2 q hpq (by omega)
  · by_cases e2 : q = t
    · subst e2
      have h1 : at_ L (q - 1) ≤ at_ L q := h0.elim (fun h => by omega) id
      by_cases e3 : p = q - 1
      · rw [e3]
        exact h1
      · have := hb.1 p (q - 1) (by omega) (by omega) e1 (by omega)
        omega
    · exact hb.1 p q hpq (by omega) e1 e2
theorem sorted_ev : ∀ (m : Nat) (L : List Int) (i : Nat), L.length - i = m → L.length < 1000 → Pre L i → ∃ r, Ev (fun k => key_sorted.l0 k L (i : Int)) r ∧ r.Perm L ∧ Pre r r.length
  | 0, L, i, hm, hl, hp => by
    refine ⟨L, Ev.ret fun k => ?_, List.Perm.refl _, fun p q hpq hq hql => hp p q hpq (by omega) hql⟩
    simp only [key_sorted.l0]
    rw [if_neg (by omega)]
  | m + 1, L, i, hm, hl, hp => by
    have key : ∀ (t : Nat) (M : List Int), M.length = L.length → t ≤ i → But M i t → ∃ r, Ev (fun k => key_sorted.l1 k M (i : Int) (t : Int)) r ∧ r.Perm M ∧ Pre r r.length := by
      intro t
      induction t with
      | zero =>
        intro M hM _ hb
        obtain ⟨r, h1, h2, h3⟩ := sorted_ev m M (i + 1) (by omega) (by omega) (but_pre hb (by omega) (Or.inl rfl))
        refine ⟨r, Ev.step (fun k => ?_) h1, h2, h3⟩
        simp only [key_sorted.l1]
        rw [if_neg (by omega), wrap_id (by omega) (by omega)]
        rfl
      | succ t ih =>
        intro M hM hti hb
        have e1 : wrap64 (((t + 1 : Nat) : Int) - 1) = (t : Int) := by rw [wrap_id (by omega) (by omega)]; omega
        by_cases hlt : at_ M (t + 1) < at_ M t
        · obtain ⟨r, h1, h2, h3⟩ := ih (swp M t) (by rw [swp_len]; exact hM) (by omega) (swp_but hti (by omega) hb hlt)
          refine ⟨r, Ev.step (fun k => ?_) h1, h2.trans (swp_perm (by omega)), h3⟩
          simp only [key_sorted.l1]
          rw [e1, if_pos (by omega), if_pos (by omega), if_pos (by omega), if_pos (by omega), if_pos (by omega), rd_at, rd_at, if_pos hlt]
          rfl
        · obtain ⟨r, h1, h2, h3⟩ := sorted_ev m M (i + 1) (by omega) (by omega) (but_pre hb (by omega) (Or.inr (by simp only [Nat.add_sub_cancel]; omega)))
          refine ⟨r, Ev.step (fun k => ?_) h1, h2, h3⟩
          simp only [key_sorted.l1]
          rw [e1, if_pos (by omega), if_pos (by omega), if_pos (by omega), if_pos (by omega), if_pos (by omega), rd_at, rd_at, if_neg hlt, wrap_id (by omega) (by omega)]
          rfl
    obtain ⟨r, h1, h2, h3⟩ := key i L rfl (Nat.le_refl _) ⟨fun p q hpq hq hp1 hq1 => hp p q hpq (by omega) (by omega), fun q h1 h2 => by omega⟩
    refine ⟨r, Ev.step (fun k => ?_) h1, h2, h3⟩
    simp only [key_sorted.l0]
    rw [if_pos (by omega)]
theorem sorted_ok (L : List Int) (hl : L.length < 1000) (hd : L.Nodup) : ∃ r, Ev (fun k => key_sorted.f k L) r ∧ r.Perm L ∧ ∀ p q, p < q → q < r.length → at_ r p < at_ r q := by
  obtain ⟨r, h1, h2, h3⟩ := sorted_ev _ L 1 rfl hl (fun p q hpq hq _ => by omega)
  refine ⟨r, h1, h2, fun p q hpq hq => ?_⟩
  have hn : r.Nodup := h2.nodup_iff.mpr hd
  have h4 := h3 p q hpq hq hq
  have hne : at_ r p ≠ at_ r q := by
    unfold at_
    rw [List.getD_eq_getElem?_getD, List.getD_eq_getElem?_getD, List.getElem?_eq_getElem hq, List.getElem?_eq_getElem (by omega : p < r.length)]
    exact (List.pairwise_iff_getElem.mp hn) p q (by omega) hq hpq
  omega
end Go.Proofs.Ythlhmijgbjcloaa.A
