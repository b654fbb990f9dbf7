/- What the row of this claim reaches. No condition. -/
import Derived.Test.YtknlbfandkmeiaaUMPure3
import Derived.Test.YtknlbfandkmeiaaUX2
set_option linter.unusedVariables false
set_option linter.unusedSimpArgs false
namespace Go.Proofs.Ytknlbfandkmeiaa.M
open Go.RowKit Go.Proofs.YtknlbfandkmeiaaW.PrintWords Go.Proofs.YtknlbfandkmeiaaW.PrintLast Go.Proofs.YtknlbfandkmeiaaW.PrintMore
theorem wakes_true : Ev (fun k => gazetteerlaw22_wakes.f k) true := Ev.of (fun k => gazetteerlaw22_wakes.mono k) (k := 20) (by kernel_rfl)
theorem msame_loop (L : List S51) (hL : L.length ≤ 1000) : ∀ (rest : List S51) (i : Nat), L.drop i = rest → Ev (fun n => api_Row_48.l0 n L L (L.length : Int) (i : Int)) true
  | [], i, h => by
    have hi := at_nil h
    refine Ev.ret fun n => ?_
    rw [api_Row_48.l0, if_neg (by omega)]
  | x :: rest, i, h => by
    obtain ⟨hi, hx, hd⟩ := at_cons h
    have ih := msame_loop L hL rest (i + 1) hd
    have hw : wrap64 ((i : Int) + 1) = ((i + 1 : Nat) : Int) := by rw [wrap_up (by omega) (by omega)]; rfl
    refine Ev.step (fun n => ?_) ih
    rw [api_Row_48.l0, if_pos (by omega), if_pos (by omega), if_pos (by omega), if_pos (by omega), hx, hw]
    simp
theorem msame_ev {L : List S51} (hL : L.length ≤ 1000) : Ev (fun n => model_Same.f n L L) true := by
  have := msame_loop L hL L 0 rfl
  refine Ev.congr (fun n => ?_) (Ev.bind this (Ev.now true))
  rw [model_Same.f, api_Row_48.f, if_pos rfl]
  rfl
theorem mready_ev {L : List S51} (hL : L.length ≤ 1000) : Ev (fun k => model_ready.f k L 1) (if okT L then 0 else 320) := by
  refine Ev.bind (f := fun k t => if t = 0 then (if (1 : Int) < 1 then (some 2) else (if (1 : Int) > 3 then (some 2) else (some 0))) else (some 320)) (check_ev hL) ?_
  by_cases h : okT L
  · simp only [if_pos h, if_true]
    exact Ev.now _
  · simp only [if_neg h, show ¬ (320 : Int) = 0 by omega, if_false]
    exact Ev.now _
theorem mapply_ev {L : List S51} (hL : L.length ≤ 1000) (a2_0 : Int) (a2_1 : Bool) (a2_2 a2_3 a2_4 a2_5 a2_6 a2_7 : Int) : Ev (fun k => model_Apply.f k L 1 a2_0 a2_1 a2_2 a2_3 a2_4 a2_5 a2_6 a2_7) (if okT L then ((applyR L 1 a2_0 a2_2 a2_3 a2_4 a2_5 a2_6 a2_7).1, (applyR L 1 a2_0 a2_2 a2_3 a2_4 a2_5 a2_6 a2_7).2.1, (applyR L 1 a2_0 a2_2 a2_3 a2_4 a2_5 a2_6 a2_7).2.2.1, (applyR L 1 a2_0 a2_2 a2_3 a2_4 a2_5 a2_6 a2_7).2.2.2, 0) else ([], 0, 0, [], 320)) := by
  refine Ev.bind (f := fun k t => if t = 0 then ((model_apply.f L 1 a2_0 a2_1 a2_2 a2_3 a2_4 a2_5 a2_6 a2_7).bind fun bt299 => (some (bt299.1, bt299.2.1, bt299.2.2.1, bt299.2.2.2, 0))) else (some (([] : List (S51)), 0, 0, ([] : List (S51)), t))) (mready_ev hL) ?_
  by_cases h : okT L
  · simp only [if_pos h, if_true]
    rw [apply_f h.1 h.2.1]
    exact Ev.now _
  · simp only [if_neg h, show ¬ (320 : Int) = 0 by omega, if_false]
    exact Ev.now _
theorem ins_mem (x : S51) : ∀ L : List S51, x ∈ insF x L
  | [] => by simp [insF]
  | y :: ys => by
    unfold insF
    split
    · simp
    · simp [ins_mem x ys]
theorem ins_filter (x : S51) : ∀ L : List S51, riseR L → x ∈ L → insF x (L.filter fun y => decide (¬ y.f0 = x.f0)) = L
  | [], _, hx => by simp at hx
  | y :: ys, hr, hx => by
    unfold riseR at hr
    obtain ⟨h1, h2⟩ := List.pairwise_cons.1 hr
    rcases List.mem_cons.1 hx with rfl | hx
    · rw [List.filter_cons_of_neg (by simp), del_none _ _ (fun z hz => by have := h1 z hz; omega)]
      cases ys with
      | nil => rfl
      | cons z zs =>
        unfold insF
        rw [if_pos (h1 z (by simp))]
    · have := h1 x hx
      rw [List.filter_cons_of_pos (by simp; omega)]
      unfold insF
      rw [if_neg (by omega), ins_filter x ys h2 hx]
theorem filter_len (x : S51) (L : List S51) (hr : riseR L) (hx : x ∈ L) : (L.filter fun y => decide (¬ y.f0 = x.f0)).length + 1 = L.length := by
  have := ins_length x (L.filter fun y => decide (¬ y.f0 = x.f0))
  rw [ins_filter x L hr hx] at this
  exact this.symm
theorem key_one (b c d e : Int) : keyF 1 b c d e = boxF b c d e := by unfold keyF; simp
theorem insert_cases {L : List S51} (h : okT L) (r b c d e v : Int) (h0 : 0 ≤ r) :
    ((applyR L 1 2 r b c d e v).2.1 ≠ 0 ∧ (applyR L 1 2 r b c d e v).1 = L ∧ (applyR L 1 2 r b c d e v).2.2 = (0, [])) ∨
    (applyR L 1 2 r b c d e v = (insF (rowP r b c d e v) L, 0, 0, []) ∧ 0 < r ∧ (∀ y ∈ L, ¬ y.f0 = r) ∧ okT (insF (rowP r b c d e v) L)) := by
  have hok := okT_apply h 1 2 r b c d e v h0
  unfold applyR at *
  simp only [show ¬ ((2 : Int) = 1 ∨ (2 : Int) = 5 ∨ (2 : Int) = 6) by omega, if_false, if_true] at *
  by_cases h3 : r = 0
  · simp only [if_pos h3]
    exact .inl ⟨by omega, trivial, trivial⟩
  simp only [if_neg h3] at *
  cases hk : keyF 1 b c d e
  · simp only [Bool.false_eq_true, if_false]
    exact .inl ⟨by omega, trivial, trivial⟩
  · rw [hk] at hok
    simp only [if_true] at *
    cases ht : thR L r
    · rw [ht] at hok
      simp only [Bool.false_eq_true, if_false] at *
      by_cases hl : L.length = 128
      · simp only [if_pos hl]
        exact .inl ⟨by omega, trivial, trivial⟩
      · simp only [if_neg hl] at *
        exact .inr ⟨(by first | rfl | trivial), by omega, (th_any h.2.1).1 ht, hok⟩
    · simp only [if_true]
      exact .inl ⟨by omega, trivial, trivial⟩
end Go.Proofs.Ytknlbfandkmeiaa.M
