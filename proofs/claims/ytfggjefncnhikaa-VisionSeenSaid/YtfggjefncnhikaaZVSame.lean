/- What the row of this claim reaches. No condition. -/
import Derived.Test.YtfggjefncnhikaaZVCheck
set_option linter.unusedVariables false
set_option linter.unusedSimpArgs false
namespace Go.Proofs.Ytfggjefncnhikaa
open Go.RowKit
def refF (first : Int) (L : List (Int × Int)) (id : Int) : Int × Int :=
  if id = 0 then (0, 0) else if id < first then (1, 0) else
  match L.find? (fun p => p.1 == id) with
  | some p => if p.2 = 0 then (2, 0) else (1, p.2)
  | none => (3, 0)
def rcountsF (own : Int) (reads : Bool) (snap first : Int) (L : List (Int × Int)) (id : Int) : Bool :=
  if reads then (refF first L id).1 == 1 && decide ((refF first L id).2 ≤ snap) else (refF first L id).1 == 1 || (!(id == 0) && id == own)
theorem right_low {first : Int} {L : List (Int × Int)} (h : rightF first L = true) : 1 ≤ first ∧ ∀ p ∈ L, first ≤ p.1 := by
  obtain ⟨h1, _, h2⟩ := rightF_true.1 h
  refine ⟨h1, fun p hp => ?_⟩
  obtain ⟨i, hi, rfl⟩ := List.mem_iff_getElem.1 hp
  have := h2 i _ hi (List.getElem?_eq_getElem hi)
  unfold rowOk at this
  simp at this
  exact this.1.1
theorem same_counts {own : Int} {reads : Bool} {snap first : Int} {L : List (Int × Int)} {id : Int} (h : rightF first L = true) (hid : 0 ≤ id) (hs : 0 ≤ snap) (hL : ∀ p ∈ L, 0 ≤ p.2) : rcountsF own reads snap first L id = countsF own reads snap first L id := by
  obtain ⟨h1, h2⟩ := right_low h
  by_cases h0 : id = 0
  · have hnone : L.find? (fun p => p.1 == id) = none := by
      rw [List.find?_eq_none]
      intro p hp
      have := h2 p hp
      simp; omega
    have e1 : refF first L id = (0, 0) := by unfold refF; rw [if_pos h0]
    have e2 : fateF first L id = (0, false, false) := by unfold fateF; rw [if_neg (by omega), hnone]
    unfold rcountsF countsF
    rw [e1, e2]
    subst h0
    cases reads <;> simp
  · have hpos : decide (0 < id) = true := decide_eq_true (by omega)
    have hz : (id == 0) = false := by simp [h0]
    by_cases h3 : id < first
    · have e1 : refF first L id = (1, 0) := by unfold refF; rw [if_neg h0, if_pos h3]
      have e2 : fateF first L id = (0, true, false) := by unfold fateF; rw [if_pos ⟨by omega, h3⟩]
      unfold rcountsF countsF
      rw [e1, e2]
      cases reads <;> simp
    · cases hf : L.find? (fun p => p.1 == id) with
      | none =>
        have e1 : refF first L id = (3, 0) := by unfold refF; rw [if_neg h0, if_neg h3, hf]
        have e2 : fateF first L id = (0, false, false) := by unfold fateF; rw [if_neg (by omega), hf]
        unfold rcountsF countsF
        rw [e1, e2, hpos, hz]
        cases reads <;> simp
      | some p =>
        have hp := hL p (List.mem_of_find?_eq_some hf)
        have e2 : fateF first L id = (p.2, decide (0 < p.2), p.2 == 0) := by unfold fateF; rw [if_neg (by omega), hf]
        by_cases hn : p.2 = 0
        · have e1 : refF first L id = (2, 0) := by unfold refF; rw [if_neg h0, if_neg h3, hf]; simp [hn]
          unfold rcountsF countsF
          rw [e1, e2, hpos, hz]
          cases reads <;> simp [hn]
        · have e1 : refF first L id = (1, p.2) := by unfold refF; rw [if_neg h0, if_neg h3, hf]; simp [hn]
          have hd : decide (0 < p.2) = true := decide_eq_true (by omega)
          unfold rcountsF countsF
          rw [e1, e2, hpos, hz, hd]
          cases reads <;> simp
end Go.Proofs.Ytfggjefncnhikaa
