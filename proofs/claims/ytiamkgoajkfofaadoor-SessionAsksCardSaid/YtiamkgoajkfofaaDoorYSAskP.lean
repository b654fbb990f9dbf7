/- What the row of this claim reaches. No condition. -/
import Derived.Test.YtiamkgoajkfofaaDoorYSLaw0
set_option linter.unusedVariables false
set_option linter.unusedSimpArgs false
namespace Go.Proofs.YtiamkgoajkfofaaDoor.S
open Go.RowKit
theorem plainO_f0 (o : S27) : (plainO o).f0 = o.f0 := by
  unfold plainO plainF
  by_cases h1 : o.f0 = 1
  · simp [h1]
  by_cases h2 : o.f0 = 2
  · simp [h2]
  by_cases h3 : o.f0 = 3
  · simp [h3]
  by_cases h4 : o.f0 = 4
  · simp [h4]
  simp [h1, h2, h3, h4]
theorem plainO_idem (o : S27) : plainO (plainO o) = plainO o := by
  have h0 := plainO_f0 o
  unfold plainO plainF at h0 ⊢
  by_cases h1 : o.f0 = 1
  · simp [h1]
  by_cases h2 : o.f0 = 2
  · simp [h2]
  by_cases h3 : o.f0 = 3
  · simp [h3]
  by_cases h4 : o.f0 = 4
  · simp [h4]
  simp [h1, h2, h3, h4]
theorem refuse_plain {st : Int} {rd : Bool} {c : Int} {o : S27} (h : refuseF st rd c o = 0) : refuseF (if o.f0 = 1 then 1 else 2) (if o.f0 = 1 then false else rd) 1 (plainO o) = 0 := by
  have hk := refuse_in h
  have hf := plainO_f0 o
  have key : keyB c o.f3 = true → keyB 1 o.f3 = true := fun e => by
    unfold keyB at e ⊢
    rw [Bool.and_eq_true] at e
    simp [e.1]
  unfold refuseF at h ⊢
  rw [hf]
  rcases seven o.f0 with e | e | e | e | e | e | e
  · simp [e]
  · by_cases s1 : st = 1
    · simp [e, s1] at h
    cases hr : rd
    · by_cases r0 : o.f2 = 0
      · simp [e, s1, hr, r0] at h
      · cases hkb : keyB c o.f3
        · simp [e, s1, hr, r0, hkb] at h
        · have := key hkb
          simp [e, plainO, plainF, r0, this]
    · simp [e, s1, hr] at h
  · by_cases s1 : st = 1
    · simp [e, s1] at h
    cases hr : rd
    · by_cases r0 : o.f2 = 0
      · simp [e, s1, hr, r0] at h
      · simp [e, plainO, plainF, r0]
    · simp [e, s1, hr] at h
  · by_cases s1 : st = 1
    · simp [e, s1] at h
    cases hkb : keyB 1 o.f3
    · simp [e, s1, hkb] at h
    · simp [e, plainO, plainF, hkb]
  · simp [e]
  · simp [e]
  · omega
theorem ask_zero {s : S33} {c : Int} {o : S27} (h : askE s c o = 0) : mayB s = true ∧ ¬ s.f0 = 3 ∧ refuseF s.f0 s.f2 c o = 0 ∧ askS s c o = { s with f0 := 3, f4 := plainO o } := by
  unfold askE at h
  by_cases h1 : mayB s = false
  · rw [if_pos h1] at h; cases h
  rw [if_neg h1] at h
  by_cases h2 : s.f0 = 3
  · rw [if_pos h2] at h; cases h
  rw [if_neg h2] at h
  refine ⟨by simpa using h1, h2, h, ?_⟩
  unfold askS
  rw [if_neg h1, if_neg h2, if_pos h]
theorem may_bare {s : S33} (h : mayB s = true) (h3 : ¬ s.f0 = 3) : bareB s = true ∧ ((s.f0 = 1 ∧ idleB s = true) ∨ (s.f0 = 2 ∧ txnB s = true)) := by
  unfold mayB at h
  by_cases h1 : s.f0 = 1
  · rw [if_pos h1, Bool.and_eq_true] at h
    exact ⟨h.2, .inl ⟨h1, h.1⟩⟩
  rw [if_neg h1] at h
  by_cases h2 : s.f0 = 2
  · rw [if_pos h2, Bool.and_eq_true] at h
    exact ⟨h.2, .inr ⟨h2, h.1⟩⟩
  rw [if_neg h2, if_neg h3] at h
  cases h
theorem ask_ok {s : S33} {c : Int} {o : S27} (h : askE s c o = 0) : mayB (askS s c o) = true ∧ (askS s c o).f0 = 3 ∧ (1 ≤ (wantT (askS s c o)).1 ∧ (wantT (askS s c o)).1 ≤ 9) ∧ (askS s c o).f1 = s.f1 ∧ (Okk s → Okk (askS s c o)) := by
  obtain ⟨hm, h3, hr, hA⟩ := ask_zero h
  obtain ⟨hb, hst⟩ := may_bare hm h3
  have hk := refuse_in hr
  unfold bareB at hb
  simp only [Bool.and_eq_true, decide_eq_true_eq, beq_iff_eq] at hb
  obtain ⟨_, h5, hcur, hnd⟩ := hb
  have ht : ¬ tabF o.f0 0 = 0 ∧ 1 ≤ tabF o.f0 0 ∧ tabF o.f0 0 ≤ 9 := by
    have : o.f0 = 1 ∨ o.f0 = 2 ∨ o.f0 = 3 ∨ o.f0 = 4 ∨ o.f0 = 5 ∨ o.f0 = 6 := by omega
    rcases this with e | e | e | e | e | e <;> simp [e, tabF]
  refine ⟨?_, by rw [hA], ?_, by rw [hA], fun hk => by rw [hA]; exact hk⟩
  · rw [hA]
    unfold mayB
    rw [if_neg (by simp), if_neg (by simp), if_pos rfl]
    unfold busyB
    simp only [plainO_f0, plainO_idem, opE_refl, h5, hcur, hnd]
    have hrp := refuse_plain hr
    have hq : kindF o.f0 0 s.f2 = tabF o.f0 0 := by unfold kindF; rw [if_neg (by omega)]
    rw [hq, hrp]
    have e1 : (if o.f0 = 1 then idleB { s with f0 := 3, f4 := plainO o, f5 := 0 } else txnB { s with f0 := 3, f4 := plainO o, f5 := 0 }) = true := by
      rcases hst with ⟨s1, hi⟩ | ⟨s2, hi⟩
      · have : o.f0 = 1 := by
          by_cases e : o.f0 = 1
          · exact e
          · unfold refuseF at hr
            rw [if_neg (by omega), if_neg (by omega), if_pos ⟨e, s1⟩] at hr
            cases hr
        rw [if_pos this]
        exact hi
      · have : ¬ o.f0 = 1 := fun e => by
          unfold refuseF at hr
          rw [if_neg (by omega), if_pos ⟨e, s2⟩] at hr
          cases hr
        rw [if_neg this]
        exact hi
    rw [e1]
    simp [ht.1]
  · rw [want_tab, hA]
    simp only [plainO_f0, h5]
    exact ht.2
end Go.Proofs.YtiamkgoajkfofaaDoor.S
