/- What the row of this claim reaches. No condition. -/
import Derived.Test.YtknlbfandkmeiaaJMPure2
set_option linter.unusedVariables false
set_option linter.unusedSimpArgs false
namespace Go.Proofs.Ytknlbfandkmeiaa.M
open Go.RowKit Go.Proofs.YtknlbfandkmeiaaW.PrintWords Go.Proofs.YtknlbfandkmeiaaW.PrintLast Go.Proofs.YtknlbfandkmeiaaW.PrintMore
abbrev rowP (a2_2 a2_3 a2_4 a2_5 a2_6 a2_7 : Int) : S51 := ⟨a2_2, ⟨a2_3, a2_4, a2_5, a2_6⟩, a2_7⟩
def applyR (L : List S51) (a1 a2_0 a2_2 a2_3 a2_4 a2_5 a2_6 a2_7 : Int) : List S51 × Int × Int × List S51 :=
  if a2_0 = 1 ∨ a2_0 = 5 ∨ a2_0 = 6 then (L, 0, 0, [])
  else if a2_0 = 2 then
    if a2_2 = 0 then (L, 2, 0, [])
    else if keyF a1 a2_3 a2_4 a2_5 a2_6 = true then (if thR L a2_2 = true then (L, 5, 0, []) else if L.length = 128 then (L, 6, 0, []) else (insF (rowP a2_2 a2_3 a2_4 a2_5 a2_6 a2_7) L, 0, 0, []))
      else (L, 314, 0, [])
  else if a2_0 = 3 then
    if a2_2 = 0 then (L, 2, 0, []) else if thR L a2_2 = true then (L.filter (fun x => decide (¬ x.f0 = a2_2)), 0, 0, []) else (L, 4, 0, [])
  else if a2_0 = 4 then
    if boxF a2_3 a2_4 a2_5 a2_6 = true then (L, 0, 0, L.filter (meetB ⟨a2_3, a2_4, a2_5, a2_6⟩)) else (L, 314, 0, [])
  else (L, 2, 0, [])
theorem apply_f {L : List S51} (hL : L.length ≤ 128) (hr : riseR L) (a1 a2_0 : Int) (a2_1 : Bool) (a2_2 a2_3 a2_4 a2_5 a2_6 a2_7 : Int) : model_apply.f L a1 a2_0 a2_1 a2_2 a2_3 a2_4 a2_5 a2_6 a2_7 = some (applyR L a1 a2_0 a2_2 a2_3 a2_4 a2_5 a2_6 a2_7) := by
  unfold model_apply.f model_find.f applyR
  rw [if_pos ⟨by omega, hr⟩, check_f, check_f]
  simp only [Option.bind_some]
  by_cases h1 : a2_0 = 1 ∨ a2_0 = 5 ∨ a2_0 = 6
  · rw [if_pos h1, if_pos h1]
  rw [if_neg h1, if_neg h1]
  by_cases h2 : a2_0 = 2
  · rw [if_pos h2, if_pos h2]
    by_cases h3 : a2_2 = 0
    · rw [if_pos h3, if_pos h3]
    rw [if_neg h3, if_neg h3]
    cases hk : keyF a1 a2_3 a2_4 a2_5 a2_6
    · simp
    · cases ht : thR L a2_2
      · by_cases hl : L.length = 128
        · simp [hl]
        · simp only [if_true, Bool.false_eq_true, if_false, hl]
          rw [ins_take (rowP a2_2 a2_3 a2_4 a2_5 a2_6 a2_7) L hr ht]
      · simp
  rw [if_neg h2, if_neg h2]
  by_cases h3 : a2_0 = 3
  · rw [if_pos h3, if_pos h3]
    by_cases h4 : a2_2 = 0
    · rw [if_pos h4, if_pos h4]
    rw [if_neg h4, if_neg h4]
    cases ht : thR L a2_2
    · simp
    · rw [if_pos rfl, if_pos rfl, del_take a2_2 L hr ht]
  rw [if_neg h3, if_neg h3]
  by_cases h4 : a2_0 = 4
  · rw [if_pos h4, if_pos h4]
    have : keyF 1 a2_3 a2_4 a2_5 a2_6 = boxF a2_3 a2_4 a2_5 a2_6 := by unfold keyF; simp
    rw [this]
    cases hb : boxF a2_3 a2_4 a2_5 a2_6 <;> simp
  rw [if_neg h4, if_neg h4]
theorem key_box {a b c d e : Int} (h : keyF a b c d e = true) : boxF b c d e = true := by
  unfold keyF at h
  simp only [Bool.and_eq_true] at h
  exact h.1
theorem okT_apply {L : List S51} (h : okT L) (a1 a2_0 a2_2 a2_3 a2_4 a2_5 a2_6 a2_7 : Int) (h0 : 0 ≤ a2_2) : okT (applyR L a1 a2_0 a2_2 a2_3 a2_4 a2_5 a2_6 a2_7).1 := by
  unfold applyR
  by_cases h1 : a2_0 = 1 ∨ a2_0 = 5 ∨ a2_0 = 6
  · rw [if_pos h1]; exact h
  rw [if_neg h1]
  by_cases h2 : a2_0 = 2
  · rw [if_pos h2]
    by_cases h3 : a2_2 = 0
    · rw [if_pos h3]; exact h
    rw [if_neg h3]
    cases hk : keyF a1 a2_3 a2_4 a2_5 a2_6
    · exact h
    · rw [if_pos rfl]
      cases ht : thR L a2_2
      · rw [if_neg (by simp)]
        by_cases hl : L.length = 128
        · rw [if_pos hl]; exact h
        · rw [if_neg hl]
          obtain ⟨q1, q2, q3⟩ := h
          refine ⟨by rw [ins_length]; omega, rise_ins q2 ((th_any q2).1 ht), fun y hy => ?_⟩
          rcases mem_ins hy with rfl | hy
          · exact ⟨by show 0 < a2_2; omega, key_box hk⟩
          · exact q3 y hy
      · exact h
  rw [if_neg h2]
  by_cases h3 : a2_0 = 3
  · rw [if_pos h3]
    by_cases h4 : a2_2 = 0
    · rw [if_pos h4]; exact h
    rw [if_neg h4]
    cases ht : thR L a2_2
    · exact h
    · rw [if_pos rfl]
      obtain ⟨q1, q2, q3⟩ := h
      exact ⟨Nat.le_trans (List.length_filter_le _ _) q1, q2.filter _, fun y hy => q3 y (List.mem_filter.1 hy).1⟩
  rw [if_neg h3]
  by_cases h4 : a2_0 = 4
  · rw [if_pos h4]
    split <;> exact h
  rw [if_neg h4]
  exact h
def wrongR (L : List S51) (a1 a2_0 a2_2 a2_3 a2_4 a2_5 a2_6 : Int) : Int :=
  if a2_0 = 1 ∨ a2_0 = 5 ∨ a2_0 = 6 then 0
  else if a2_0 = 2 then
    if a2_2 = 0 then 2 else if keyF a1 a2_3 a2_4 a2_5 a2_6 = true then (if thR L a2_2 = true then 5 else if L.length = 128 then 6 else 0) else 314
  else if a2_0 = 3 then (if a2_2 = 0 then 2 else if thR L a2_2 = true then 0 else 4)
  else if a2_0 = 4 then (if boxF a2_3 a2_4 a2_5 a2_6 = true then 0 else 314)
  else 2
theorem wrong_ev {L : List S51} (hL : L.length ≤ 128) (hr : riseR L) {a1 : Int} (h1 : 1 ≤ a1) (h3 : a1 ≤ 3) (a2_0 : Int) (a2_1 : Bool) (a2_2 a2_3 a2_4 a2_5 a2_6 a2_7 : Int) : Ev (fun k => gazetteerref22_wrong.f k L a1 a2_0 a2_1 a2_2 a2_3 a2_4 a2_5 a2_6 a2_7) (wrongR L a1 a2_0 a2_2 a2_3 a2_4 a2_5 a2_6) := by
  have ht := there_ev (L := L) a2_2 (by omega) hr
  obtain ⟨N, hN⟩ := ht
  refine ⟨N + 1, fun k hk => ?_⟩
  obtain ⟨k, rfl⟩ : ∃ m, k = m + 1 := ⟨k - 1, by omega⟩
  have hT : gazetteerref22_There.f k L a2_2 = some (thR L a2_2) := hN k (by omega)
  have e : gazetteerref22_wrong.f (k + 1) L a1 a2_0 a2_1 a2_2 a2_3 a2_4 a2_5 a2_6 a2_7 = gazetteerref22_wrong.j0 (k + 1) a1 a2_0 (decide (a2_0 = 1 ∨ a2_0 = 5 ∨ a2_0 = 6)) L a2_0 a2_1 a2_2 a2_3 a2_4 a2_5 a2_6 a2_7 := by
    unfold gazetteerref22_wrong.f
    by_cases q1 : a2_0 = 1
    · rw [if_pos q1]; simp [q1]
    by_cases q5 : a2_0 = 5
    · rw [if_neg q1, if_pos q5]; simp [q5]
    · rw [if_neg q1, if_neg q5]
      congr 1
      by_cases q6 : a2_0 = 6 <;> simp [q1, q5, q6]
  show gazetteerref22_wrong.f (k + 1) L a1 a2_0 a2_1 a2_2 a2_3 a2_4 a2_5 a2_6 a2_7 = _
  rw [e, gazetteerref22_wrong.j0, rright_f h1 h3, hT, rbox_f]
  unfold wrongR
  by_cases q1 : a2_0 = 1 ∨ a2_0 = 5 ∨ a2_0 = 6
  · rw [if_pos (by simpa using q1), if_pos q1]
  rw [if_neg (by simpa using q1), if_neg q1]
  by_cases q2 : a2_0 = 2
  · rw [if_pos q2, if_pos q2]
    by_cases q3 : a2_2 = 0
    · rw [if_pos q3, if_pos q3]
    rw [if_neg q3, if_neg q3]
    cases keyF a1 a2_3 a2_4 a2_5 a2_6 <;> cases thR L a2_2 <;> by_cases hl : L.length = 128 <;> simp [hl] <;> omega
  rw [if_neg q2, if_neg q2]
  by_cases q3 : a2_0 = 3
  · rw [if_pos q3, if_pos q3]
    by_cases q4 : a2_2 = 0
    · rw [if_pos q4, if_pos q4]
    rw [if_neg q4, if_neg q4]
    cases thR L a2_2 <;> simp
  rw [if_neg q3, if_neg q3]
  by_cases q4 : a2_0 = 4
  · rw [if_pos q4, if_pos q4]
    cases boxF a2_3 a2_4 a2_5 a2_6 <;> simp
  rw [if_neg q4, if_neg q4]
theorem refApply_ev {L : List S51} (h : okT L) {a1 : Int} (h1 : 1 ≤ a1) (h3 : a1 ≤ 3) (a2_0 : Int) (a2_1 : Bool) (a2_2 a2_3 a2_4 a2_5 a2_6 a2_7 : Int) : Ev (fun k => gazetteerref22_Apply.f k L a1 a2_0 a2_1 a2_2 a2_3 a2_4 a2_5 a2_6 a2_7) (applyR L a1 a2_0 a2_2 a2_3 a2_4 a2_5 a2_6 a2_7) := by
  obtain ⟨hL, hr, hx⟩ := h
  have hL' : L.length ≤ 1000 := by omega
  have hw := wrong_ev hL hr h1 h3 a2_0 a2_1 a2_2 a2_3 a2_4 a2_5 a2_6 a2_7
  have h0 := without_ev (L := L) 0 hL'
  rw [del_none 0 L (fun x hx' => by have := (hx x hx').1; omega)] at h0
  have hwo := without_ev (L := L) a2_2 hL'
  have hwi := with_ev (rowP a2_2 a2_3 a2_4 a2_5 a2_6 a2_7) hL'
  have hme := meets_ev (L := L) ⟨a2_3, a2_4, a2_5, a2_6⟩ hL'
  refine Ev.bind hw ?_
  unfold wrongR applyR
  by_cases q1 : a2_0 = 1 ∨ a2_0 = 5 ∨ a2_0 = 6
  · rw [if_pos q1, if_pos q1]
    have n2 : ¬ a2_0 = 2 := by omega
    have n3 : ¬ a2_0 = 3 := by omega
    have n4 : ¬ a2_0 = 4 := by omega
    simp only [if_true, n2, n3, n4, if_false]
    exact Ev.bind h0 (Ev.now _)
  rw [if_neg q1, if_neg q1]
  by_cases q2 : a2_0 = 2
  · rw [if_pos q2, if_pos q2]
    by_cases q3 : a2_2 = 0
    · rw [if_pos q3, if_pos q3]
      simp only [show ¬ (2 : Int) = 0 by omega, if_false]
      exact Ev.bind h0 (Ev.now _)
    rw [if_neg q3, if_neg q3]
    cases hk : keyF a1 a2_3 a2_4 a2_5 a2_6
    · simp only [Bool.false_eq_true, if_false, show ¬ (314 : Int) = 0 by omega]
      exact Ev.bind h0 (Ev.now _)
    · cases ht : thR L a2_2
      · by_cases hl : L.length = 128
        · simp only [if_true, Bool.false_eq_true, if_false, hl, show ¬ (6 : Int) = 0 by omega]
          exact Ev.bind h0 (Ev.now _)
        · simp only [if_true, Bool.false_eq_true, if_false, hl, q2]
          exact Ev.bind hwi (Ev.now _)
      · simp only [if_true, if_false, show ¬ (5 : Int) = 0 by omega]
        exact Ev.bind h0 (Ev.now _)
  rw [if_neg q2, if_neg q2]
  by_cases q3 : a2_0 = 3
  · rw [if_pos q3, if_pos q3]
    by_cases q4 : a2_2 = 0
    · rw [if_pos q4, if_pos q4]
      simp only [show ¬ (2 : Int) = 0 by omega, if_false]
      exact Ev.bind h0 (Ev.now _)
    rw [if_neg q4, if_neg q4]
    cases ht : thR L a2_2
    · simp only [Bool.false_eq_true, if_false, show ¬ (4 : Int) = 0 by omega]
      exact Ev.bind h0 (Ev.now _)
    · simp only [if_true, q3, show ¬ (3 : Int) = 2 by omega, if_false]
      exact Ev.bind hwo (Ev.now _)
  rw [if_neg q3, if_neg q3]
  by_cases q4 : a2_0 = 4
  · rw [if_pos q4, if_pos q4]
    cases hb : boxF a2_3 a2_4 a2_5 a2_6
    · simp only [Bool.false_eq_true, if_false, show ¬ (314 : Int) = 0 by omega]
      exact Ev.bind h0 (Ev.now _)
    · simp only [if_true, q4, show ¬ (4 : Int) = 2 by omega, show ¬ (4 : Int) = 3 by omega, if_false]
      exact Ev.bind h0 (Ev.bind hme (Ev.now _))
  rw [if_neg q4, if_neg q4]
  simp only [show ¬ (2 : Int) = 0 by omega, if_false]
  exact Ev.bind h0 (Ev.now _)
end Go.Proofs.Ytknlbfandkmeiaa.M
