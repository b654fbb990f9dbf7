/- What the row of this claim reaches. No condition. -/
import Derived.Test.YtiamkgoajkfofaaDoorXSWantR
import Derived.Test.YtiamkgoajkfofaaDoorXSRight
import Derived.Test.YtiamkgoajkfofaaDoorXSCop
set_option linter.unusedVariables false
set_option linter.unusedSimpArgs false
namespace Go.Proofs.YtiamkgoajkfofaaDoor.S
open Go.RowKit Go.Proofs.YtiamkgoajkfofaaDoorW.PrintWords Go.Proofs.YtiamkgoajkfofaaDoorW.PrintLast Go.Proofs.YtiamkgoajkfofaaDoorW.PrintMore
theorem kind_may {s : S33} (h : mayB s = true) (h3 : s.f0 = 3) : kindF s.f4.f0 s.f5 s.f2 = tabF s.f4.f0 s.f5 := by
  unfold mayB at h
  rw [if_neg (by omega), if_neg (by omega), if_pos h3] at h
  unfold busyB at h
  simp only [Bool.and_eq_true, decide_eq_true_eq] at h
  have hk := h.2.2.2.1
  unfold kindF at hk ⊢
  by_cases c : s.f4.f0 = 4 ∧ s.f5 = 2 ∧ s.f2 = true
  · rw [if_pos c] at hk
    exact absurd rfl hk
  · rw [if_neg c]
theorem rwant_may {s : S33} (h : mayB s = true) (h3 : s.f0 = 3) : rwantT s = wantT s := by
  unfold rwantT wantT wantF
  rw [kind_may h h3]
theorem rwant_need {s : S33} (h : mayB s = true) (h3 : s.f0 = 3) : kindF s.f4.f0 s.f5 s.f2 = 2 → s.f4.f0 = 4 → 0 < s.f7.length := by
  rw [kind_may h h3]
  exact (may_in h h3).2.2
theorem granted_may {s : S33} (h : mayB s = true) (h3 : s.f0 = 3) (hw : (wantT s).1 = 2) : rgrantedS s = grantedS s ∧ (s.f4.f0 = 4 → 0 < s.f7.length) := by
  rw [want_tab] at hw
  refine ⟨?_, (may_in h h3).2.2 hw⟩
  unfold rgrantedS grantedS
  by_cases c : s.f4.f0 = 4
  · rw [if_neg (not_not_intro c), if_neg (not_not_intro c)]
  · rw [if_pos c, if_pos c]
    have h5 : s.f5 = 0 := by
      unfold tabF at hw
      repeat' split at hw
      all_goals first | assumption | omega
    rw [h5]
    rfl
theorem granted_c {s : S33} {p : Pt} {W : World} (hk : Okk s) (hT : TabIs W) (hi : In W s p) : Hid (Calls Tryd.prog 26 #[.agg (sv s p)] W fun e w' => ∃ p', e = .returned (.tuple #[.agg (sv (turnS s (grantedB s) (grantedS s)) p'), .int .i64 (turnE s (grantedB s))]) ∧ InR w' W.heap.size (turnS s (grantedB s) (grantedS s)) p' ∧ Below W.heap.size W w') := Lib.hid (granted_any s p W hk hT hi)
theorem ended_c {s : S33} {p : Pt} {over : Bool} {W : World} (hk : Okk s) (hT : TabIs W) (hi : In W s p) : Hid (Calls Tryd.prog 27 #[.agg (sv s p), .bool over] W fun e w' => ∃ p', e = .returned (.tuple #[.agg (sv (turnS s (endedB s over) (endedS s over)) p'), .int .i64 (turnE s (endedB s over))]) ∧ InR w' W.heap.size (turnS s (endedB s over) (endedS s over)) p' ∧ Below W.heap.size W w') := Lib.hid (ended_any s p over W hk hT hi)
theorem lens_zero : Lens z33 := ⟨by decide, by decide, by decide⟩
theorem lens_granted {s : S33} (h : Lens s) : Lens (turnS s (grantedB s) (grantedS s)) := by
  unfold turnS
  split
  · split
    · unfold grantedS
      split
      · exact h
      · split
        · exact ⟨h.1, h.2.1, by simp⟩
        · refine ⟨h.1, h.2.1, ?_⟩
          have := h.2.2
          show (s.f7.drop 1).length ≤ 1000
          rw [List.length_drop]
          omega
    · exact lens_zero
  · exact lens_zero
theorem lens_ended {s : S33} {over : Bool} : Lens (turnS s (endedB s over) (endedS s over)) := by
  unfold turnS
  split
  · split
    · cases over <;> exact ⟨by simp [endedS, z31], by simp [endedS, z31], by simp [endedS]⟩
    · exact lens_zero
  · exact lens_zero
theorem turn_off {s s' : S33} {b : Bool} (h : ¬ readyF s = 0) : turnS s b s' = z33 ∧ turnE s b = readyF s := by
  unfold turnS turnE
  rw [if_neg h, if_neg h]
  exact ⟨rfl, rfl⟩
theorem turn_no {s s' : S33} {b : Bool} (h : readyF s = 0) (hb : b = false) : turnS s b s' = z33 ∧ turnE s b = 2 := by
  unfold turnS turnE
  rw [if_pos h, if_pos h, hb]
  exact ⟨rfl, rfl⟩
theorem turn_yes {s s' : S33} {b : Bool} (h : readyF s = 0) (hb : b = true) : turnS s b s' = s' ∧ turnE s b = 0 := by
  unfold turnS turnE
  rw [if_pos h, if_pos h, hb]
  exact ⟨rfl, rfl⟩
end Go.Proofs.YtiamkgoajkfofaaDoor.S
