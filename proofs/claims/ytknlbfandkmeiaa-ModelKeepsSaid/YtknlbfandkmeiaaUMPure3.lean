/- What the row of this claim reaches. No condition. -/
import Derived.Test.YtknlbfandkmeiaaUMPure2
set_option linter.unusedVariables false
set_option linter.unusedSimpArgs false
namespace Go.Proofs.Ytknlbfandkmeiaa.M
open Go.RowKit Go.Proofs.YtknlbfandkmeiaaW.PrintWords Go.Proofs.YtknlbfandkmeiaaW.PrintLast Go.Proofs.YtknlbfandkmeiaaW.PrintMore
abbrev rowP (a2_2 a2_3 a2_4 a2_5 a2_6 a2_7 : Int) : S51 := ⟨a2_2, ⟨a2_3, a2_4, a2_5, a2_6⟩, a2_7⟩
def applyR (L : List S51) (a1 a2_0 a2_2 a2_3 a2_4 a2_5 a2_6 a2_7 : Int) : List S51 × Int × Int × List S51 :=
  if a2_0 = 1 ∨ a2_0 = 5 ∨ a2_0 = 6 then (L, 0, 0, [])
  else if a2_0 = 2 then
    if a2_2 = 0 then (L, 2, 0, [])
    else if keyF a1 a2_3 a2_4 a2_5 a2_6 = true then (if thR L a2_2 = true then (L, 5, 0, []) else if L.length = 128 then (L, 6, 0, []) else (insF (rowP a2_2 a2_3 a2_4 a2_5 a2_6 a2_7) L, 0, 0, []))
      else (L, 314, 0, [])
  else if a2_0 = 3 then
    if a2_2 = 0 then (L, 2, 0, []) else if thR L a2_2 = true then (L.filter (fun x => decide (¬ x.f0 = a2_2)), 0, 0, []) else (L, 4, 0, [])
  else if a2_0 = 4 then
    if boxF a2_3 a2_4 a2_5 a2_6 = true then (L, 0, 0, L.filter (meetB ⟨a2_3, a2_4, a2_5, a2_6⟩)) else (L, 314, 0, [])
  else (L, 2, 0, [])
theorem apply_f {L : List S51} (hL : L.length ≤ 128) (hr : riseR L) (a1 a2_0 : Int) (a2_1 : Bool) (a2_2 a2_3 a2_4 a2_5 a2_6 a2_7 : Int) : model_apply.f L a1 a2_0 a2_1 a2_2 a2_3 a2_4 a2_5 a2_6 a2_7 = some (applyR L a1 a2_0 a2_2 a2_3 a2_4 a2_5 a2_6 a2_7) := by
  unfold model_apply.f model_find.f applyR
  rw [if_pos ⟨by omega, hr⟩, check_f, check_f]
  simp only [Option.bind_some]
  by_cases h1 : a2_0 = 1 ∨ a2_0 = 5 ∨ a2_0 = 6
  · rw [if_pos h1, if_pos h1]
  rw [if_neg h1, if_neg h1]
  by_cases h2 : a2_0 = 2
  · rw [if_pos h2, if_pos h2]
    by_cases h3 : a2_2 = 0
    · rw [if_pos h3, if_pos h3]
    rw [if_neg h3, if_neg h3]
    cases hk : keyF a1 a2_3 a2_4 a2_5 a2_6
    · simp
    · cases ht : thR L a2_2
      · by_cases hl : L.length = 128
        · simp [hl]
        · simp only [if_true, Bool.false_eq_true, if_false, hl]
          rw [ins_take (rowP a2_2 a2_3 a2_4 a2_5 a2_6 a2_7) L hr ht]
      · simp
  rw [if_neg h2, if_neg h2]
  by_cases h3 : a2_0 = 3
  · rw [if_pos h3, if_pos h3]
    by_cases h4 : a2_2 = 0
    · rw [if_pos h4, if_pos h4]
    rw [if_neg h4, if_neg h4]
    cases ht : thR L a2_2
    · simp
    · rw [if_pos rfl, if_pos rfl, del_take a2_2 L hr ht]
  rw [if_neg h3, if_neg h3]
  by_cases h4 : a2_0 = 4
  · rw [if_pos h4, if_pos h4]
    have : keyF 1 a2_3 a2_4 a2_5 a2_6 = boxF a2_3 a2_4 a2_5 a2_6 := by unfold keyF; simp
    rw [this]
    cases hb : boxF a2_3 a2_4 a2_5 a2_6 <;> simp
  rw [if_neg h4, if_neg h4]
theorem key_box {a b c d e : Int} (h : keyF a b c d e = true) : boxF b c d e = true := by
  unfold keyF at h
  simp only [Bool.and_eq_true] at h
  exact h.1
theorem okT_apply {L : List S51} (h : okT L) (a1 a2_0 a2_2 a2_3 a2_4 a2_5 a2_6 a2_7 : Int) (h0 : 0 ≤ a2_2) : okT (applyR L a1 a2_0 a2_2 a2_3 a2_4 a2_5 a2_6 a2_7).1 := by
  unfold applyR
  by_cases h1 : a2_0 = 1 ∨ a2_0 = 5 ∨ a2_0 = 6
  · rw [if_pos h1]; exact h
  rw [if_neg h1]
  by_cases h2 : a2_0 = 2
  · rw [if_pos h2]
    by_cases h3 : a2_2 = 0
    · rw [if_pos h3]; exact h
    rw [if_neg h3]
    cases hk : keyF a1 a2_3 a2_4 a2_5 a2_6
    · exact h
    · rw [if_pos rfl]
      cases ht : thR L a2_2
      · rw [if_neg (by simp)]
        by_cases hl : L.length = 128
        · rw [if_pos hl]; exact h
        · rw [if_neg hl]
          obtain ⟨q1, q2, q3⟩ := h
          refine ⟨by rw [ins_length]; omega, rise_ins q2 ((th_any q2).1 ht), fun y hy => ?_⟩
          rcases mem_ins hy with rfl | hy
          · exact ⟨by show 0 < a2_2; omega, key_box hk⟩
          · exact q3 y hy
      · exact h
  rw [if_neg h2]
  by_cases h3 : a2_0 = 3
  · rw [if_pos h3]
    by_cases h4 : a2_2 = 0
    · rw [if_pos h4]; exact h
    rw [if_neg h4]
    cases ht : thR L a2_2
    · exact h
    · rw [if_pos rfl]
      obtain ⟨q1, q2, q3⟩ := h
      exact ⟨Nat.le_trans (List.length_filter_le _ _) q1, q2.filter _, fun y hy => q3 y (List.mem_filter.1 hy).1⟩
  rw [if_neg h3]
  by_cases h4 : a2_0 = 4
  · rw [if_pos h4]
    split <;> exact h
  rw [if_neg h4]
  exact h
end Go.Proofs.Ytknlbfandkmeiaa.M
