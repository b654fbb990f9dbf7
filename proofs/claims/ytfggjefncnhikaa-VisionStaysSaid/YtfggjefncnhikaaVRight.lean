/- Which fates may be, told row by row; what counts for a snapshot when what is open is done above it: plain laws. -/
import Derived.Test.YtfggjefncnhikaaVSame
namespace Go.Proofs.Ytfggjefncnhikaa
set_option linter.unusedVariables false
set_option linter.unusedSimpArgs false
theorem right_iff {a : Int} {L : List (Int × Int)} : rightF a L = true ↔ 1 ≤ a ∧ L.length ≤ 256 ∧ (∀ (i : Nat) (p : Int × Int), L[i]? = some p → a ≤ p.1) ∧ (∀ (i : Nat) (p q : Int × Int), L[i]? = some p → L[i + 1]? = some q → p.1 < q.1) ∧
    (∀ (j i : Nat) (p q : Int × Int), j < i → L[j]? = some p → L[i]? = some q → 0 < q.2 → p.2 ≠ q.2) := by
  rw [rightF_true]
  refine and_congr_right fun _ => and_congr_right fun _ => ⟨fun h => ⟨fun i p hp => ?_, fun i p q hp hq => ?_, fun j i p q hji hp hq hz he => ?_⟩, fun h i q hi hq => ?_⟩
  · have := h i p (List.getElem?_eq_some_iff.1 hp).1 hp
    unfold rowOk at this
    simp only [Bool.and_eq_true, decide_eq_true_eq] at this
    exact this.1.1
  · have := h (i + 1) q (List.getElem?_eq_some_iff.1 hq).1 hq
    unfold rowOk at this
    simp only [Nat.add_sub_cancel, hp, Bool.and_eq_true, Bool.or_eq_true, decide_eq_true_eq] at this
    omega
  · have := h i q (List.getElem?_eq_some_iff.1 hq).1 hq
    unfold rowOk at this
    simp only [Bool.and_eq_true, Bool.or_eq_true, decide_eq_true_eq, Bool.not_eq_true', List.any_eq_false, beq_iff_eq] at this
    rcases this.2 with h1 | h1
    · omega
    · refine h1 p ?_ he
      obtain ⟨hj, e⟩ := List.getElem?_eq_some_iff.1 hp
      rw [List.mem_take_iff_getElem]
      exact ⟨j, by omega, e⟩
  · obtain ⟨h1, h2, h3⟩ := h
    unfold rowOk
    simp only [Bool.and_eq_true, Bool.or_eq_true, decide_eq_true_eq, Bool.not_eq_true', List.any_eq_false, beq_iff_eq]
    refine ⟨⟨h1 i q hq, ?_⟩, ?_⟩
    · rcases i with _ | i
      · exact .inl rfl
      · right
        have hil : i < L.length := by omega
        rw [Nat.add_sub_cancel, List.getElem?_eq_getElem hil]
        simp only [decide_eq_true_eq]
        exact h2 i _ q (List.getElem?_eq_getElem hil) hq
    · by_cases hz : q.2 ≤ 0
      · exact .inl hz
      · right
        intro p hp he
        rw [List.mem_take_iff_getElem] at hp
        obtain ⟨j, hj, rfl⟩ := hp
        exact h3 j i _ q (by omega) (List.getElem?_eq_getElem (by omega)) hq (by omega) he
/-- One that is open is done, above all numbers. -/
theorem right_set {a N : Int} {L : List (Int × Int)} {i : Nat} {p : Int × Int} (h : rightF a L = true) (hp : L[i]? = some p) (hN : ∀ q ∈ L, q.2 < N) : rightF a (L.set i (p.1, N)) = true := by
  obtain ⟨h1, h2, h3, h4, h5⟩ := right_iff.1 h
  have hil := (List.getElem?_eq_some_iff.1 hp).1
  have get : ∀ (j : Nat) (q : Int × Int), (L.set i (p.1, N))[j]? = some q → ∃ r, L[j]? = some r ∧ r.1 = q.1 ∧ (j = i ∧ q.2 = N ∨ j ≠ i ∧ q.2 = r.2) := fun j q hq => by
    rw [List.getElem?_set] at hq
    by_cases hj : i = j
    · subst hj
      rw [if_pos rfl, if_pos hil] at hq
      cases hq
      exact ⟨p, hp, rfl, .inl ⟨rfl, rfl⟩⟩
    · rw [if_neg hj] at hq
      exact ⟨q, hq, rfl, .inr ⟨fun e => hj e.symm, rfl⟩⟩
  refine right_iff.2 ⟨h1, by rw [List.length_set]; exact h2, fun j q hq => ?_, fun j q r hq hr => ?_, fun j k q r hjk hq hr hz => ?_⟩
  · obtain ⟨r, hr, e, _⟩ := get j q hq
    rw [← e]
    exact h3 j r hr
  · obtain ⟨q', hq', e, _⟩ := get j q hq
    obtain ⟨r', hr', e', _⟩ := get (j + 1) r hr
    rw [← e, ← e']
    exact h4 j q' r' hq' hr'
  · obtain ⟨q', hq', _, cq⟩ := get j q hq
    obtain ⟨r', hr', _, cr⟩ := get k r hr
    have n1 := hN q' (List.mem_of_getElem? hq')
    have n2 := hN r' (List.mem_of_getElem? hr')
    rcases cq with ⟨e1, e2⟩ | ⟨e1, e2⟩ <;> rcases cr with ⟨e3, e4⟩ | ⟨e3, e4⟩
    · omega
    · rw [e2, e4]; omega
    · rw [e2, e4]; omega
    · have := h5 j k q' r' hjk hq' hr' (by omega)
      rw [e2, e4]
      exact this
/-- The same fates, but that some that were open are done above the snapshot. -/
def Above (snap : Int) : List (Int × Int) → List (Int × Int) → Prop
  | [], [] => True
  | p :: L, q :: M => q.1 = p.1 ∧ (q.2 = p.2 ∨ (p.2 = 0 ∧ snap < q.2)) ∧ Above snap L M
  | _, _ => False
theorem Above.refl (snap : Int) : ∀ L : List (Int × Int), Above snap L L
  | [] => trivial
  | _ :: L => ⟨rfl, .inl rfl, Above.refl snap L⟩
theorem Above.set {snap N : Int} : ∀ {L M : List (Int × Int)} {i : Nat} {q : Int × Int}, Above snap L M → M[i]? = some q → q.2 = 0 → snap < N → 0 ≤ snap → Above snap L (M.set i (q.1, N))
  | [], [], _, _, _, hq, _, _, _ => by simp at hq
  | p :: L, r :: M, 0, q, ⟨h1, h2, h3⟩, hq, hz, hN, hs => by
    simp at hq
    subst hq
    refine ⟨h1, .inr ⟨?_, hN⟩, h3⟩
    rcases h2 with h2 | h2
    · rw [← h2]; exact hz
    · exact h2.1
  | p :: L, r :: M, i + 1, q, ⟨h1, h2, h3⟩, hq, hz, hN, hs => ⟨h1, h2, Above.set h3 (by simpa using hq) hz hN hs⟩
def tell : Option (Int × Int) → Int × Bool × Bool
  | some p => (p.2, decide (0 < p.2), p.2 == 0)
  | none => (0, false, false)
theorem fateF_tell (a id : Int) (L : List (Int × Int)) : fateF a L id = if 0 < id ∧ id < a then (0, true, false) else tell (L.find? (fun p => p.1 == id)) := by
  unfold fateF
  split
  · rfl
  · cases L.find? (fun p => p.1 == id) <;> rfl
theorem Above.key {snap id : Int} (hs : 0 ≤ snap) : ∀ {L M : List (Int × Int)}, Above snap L M → ((tell (M.find? (fun p => p.1 == id))).2.1 && decide ((tell (M.find? (fun p => p.1 == id))).1 ≤ snap)) = ((tell (L.find? (fun p => p.1 == id))).2.1 && decide ((tell (L.find? (fun p => p.1 == id))).1 ≤ snap))
  | [], [], _ => rfl
  | p :: L, q :: M, ⟨h1, h2, h3⟩ => by
    by_cases hid : p.1 = id
    · rw [List.find?_cons_of_pos (by simpa [h1] using hid), List.find?_cons_of_pos (by simpa using hid)]
      obtain ⟨p1, p2⟩ := p
      obtain ⟨q1, q2⟩ := q
      simp only at h2
      rcases h2 with rfl | ⟨rfl, h4⟩
      · rfl
      · have e : decide (q2 ≤ snap) = false := decide_eq_false (by omega)
        show (decide (0 < q2) && decide (q2 ≤ snap)) = (decide ((0 : Int) < 0) && decide (0 ≤ snap))
        rw [e, Bool.and_false]
        rfl
    · rw [List.find?_cons_of_neg (by simpa [h1] using hid), List.find?_cons_of_neg (by simpa using hid)]
      exact Above.key hs h3
theorem Above.counts {own snap a id : Int} (hs : 0 ≤ snap) {L M : List (Int × Int)} (h : Above snap L M) : countsF own true snap a M id = countsF own true snap a L id := by
  unfold countsF
  simp only [if_true, fateF_tell]
  by_cases h0 : 0 < id ∧ id < a
  · simp [h0]
  · simp only [if_neg h0]
    exact Above.key hs h
end Go.Proofs.Ytfggjefncnhikaa
