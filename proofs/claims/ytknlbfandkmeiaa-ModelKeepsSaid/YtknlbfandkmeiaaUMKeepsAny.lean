/- What the row of this claim reaches. No condition. -/
import Derived.Test.YtknlbfandkmeiaaUMKeeps
set_option linter.unusedVariables false
set_option linter.unusedSimpArgs false
namespace Go.Proofs.Ytknlbfandkmeiaa.M
open Go.RowKit Go.Proofs.YtknlbfandkmeiaaW.PrintWords Go.Proofs.YtknlbfandkmeiaaW.PrintLast Go.Proofs.YtknlbfandkmeiaaW.PrintMore
theorem mmeets_ev {L : List S51} (h : okT L) (k : S36) : Ev (fun n => model_Meets.f n L k.f0 k.f1 k.f2 k.f3) (if boxF k.f0 k.f1 k.f2 k.f3 = true then (L.filter (meetB k), 0) else ([], 314)) := by
  have hl := h.1
  have hc := check_ev (L := L) (by omega)
  rw [if_pos h] at hc
  refine Ev.bind (f := fun _ e => if e = 0 then (key_Check.f 1 k.f0 k.f1 k.f2 k.f3).bind fun e2 => if e2 = 0 then (if L.length ≤ 1000 then some (L.filter (meetB k), 0) else none) else some ([], 314) else some ([], 320)) hc ?_
  rw [check_f, key_one]
  simp only [if_true, Option.bind_some]
  cases boxF k.f0 k.f1 k.f2 k.f3
  · simp only [Bool.false_eq_true, if_false, show ¬ (2 : Int) = 0 by omega]
    exact Ev.now _
  · simp only [if_true]
    rw [if_pos (by omega)]
    exact Ev.now _
theorem op_cases {T : List S51} (ho : okT T) (o : S38) (hr0 : 0 ≤ o.f2) :
    ((applyR T 1 o.f0 o.f2 o.f3.f0 o.f3.f1 o.f3.f2 o.f3.f3 o.f4).2.1 ≠ 0 ∧ (applyR T 1 o.f0 o.f2 o.f3.f0 o.f3.f1 o.f3.f2 o.f3.f3 o.f4).1 = T ∧ (applyR T 1 o.f0 o.f2 o.f3.f0 o.f3.f1 o.f3.f2 o.f3.f3 o.f4).2.2 = (0, [])) ∨
        ((applyR T 1 o.f0 o.f2 o.f3.f0 o.f3.f1 o.f3.f2 o.f3.f3 o.f4).2.1 = 0 ∧ ((o.f0 = 2 ∧ (applyR T 1 o.f0 o.f2 o.f3.f0 o.f3.f1 o.f3.f2 o.f3.f3 o.f4).1 = insF (rowP o.f2 o.f3.f0 o.f3.f1 o.f3.f2 o.f3.f3 o.f4) T ∧ ∀ y ∈ T, ¬ y.f0 = o.f2) ∨
          (o.f0 = 3 ∧ (applyR T 1 o.f0 o.f2 o.f3.f0 o.f3.f1 o.f3.f2 o.f3.f3 o.f4).1 = T.filter (fun y => decide (¬ y.f0 = o.f2)) ∧ thR T o.f2 = true) ∨
          (¬ o.f0 = 2 ∧ ¬ o.f0 = 3 ∧ (applyR T 1 o.f0 o.f2 o.f3.f0 o.f3.f1 o.f3.f2 o.f3.f3 o.f4).1 = T))) := by
  by_cases q2 : o.f0 = 2
  · rw [q2]
    rcases insert_cases ho o.f2 o.f3.f0 o.f3.f1 o.f3.f2 o.f3.f3 o.f4 hr0 with h | ⟨h1, h2, h3, h4⟩
    · exact .inl h
    · rw [h1]
      exact .inr ⟨rfl, .inl ⟨rfl, rfl, h3⟩⟩
  · unfold applyR
    by_cases q1 : o.f0 = 1 ∨ o.f0 = 5 ∨ o.f0 = 6
    · simp only [if_pos q1]
      exact .inr ⟨trivial, .inr (.inr ⟨q2, by omega, trivial⟩)⟩
    simp only [if_neg q1, if_neg q2]
    by_cases q3 : o.f0 = 3
    · simp only [if_pos q3]
      by_cases q4 : o.f2 = 0
      · simp only [if_pos q4]
        exact .inl ⟨by omega, trivial, trivial⟩
      simp only [if_neg q4]
      cases ht : thR T o.f2
      · simp only [Bool.false_eq_true, if_false]
        exact .inl ⟨by omega, trivial, trivial⟩
      · simp only [if_true]
        exact .inr ⟨trivial, .inr (.inl ⟨q3, trivial, trivial⟩)⟩
    simp only [if_neg q3]
    by_cases q4 : o.f0 = 4
    · simp only [if_pos q4]
      cases hb : boxF o.f3.f0 o.f3.f1 o.f3.f2 o.f3.f3
      · simp only [Bool.false_eq_true, if_false]
        exact .inl ⟨by omega, trivial, trivial⟩
      · simp only [if_true]
        exact .inr ⟨trivial, .inr (.inr ⟨q2, q3, trivial⟩)⟩
    · simp only [if_neg q4]
      exact .inl ⟨by omega, trivial, trivial⟩
theorem op_rows {T : List S51} (o : S38) (h4 : ¬ o.f0 = 4) : (applyR T 1 o.f0 o.f2 o.f3.f0 o.f3.f1 o.f3.f2 o.f3.f3 o.f4).2.2 = (0, []) := by
  unfold applyR
  simp only [if_neg h4]
  repeat' split
  all_goals rfl
theorem keeps_any (A0 : Option Addr) (c0 : Nat) (l0 : List S51) (o v : S38) (w : World) (hr0 : Kd.C k51 w A0 l0.length l0) (hc0 : l0.length ≤ c0) (hr : 0 ≤ o.f2) :
    Calls Try.prog 7 #[.agg #[.slice A0 l0.length c0], .agg #[.int .i64 o.f0, .bool o.f1, .int .u32 o.f2, .int .i64 o.f3.f0, .int .i64 o.f3.f1, .int .i64 o.f3.f2, .int .i64 o.f3.f3, .int .i64 o.f4], .agg #[.int .i64 v.f0, .bool v.f1, .int .u32 v.f2, .int .i64 v.f3.f0, .int .i64 v.f3.f1, .int .i64 v.f3.f2, .int .i64 v.f3.f3, .int .i64 v.f4]] w fun e w' => e = .returned (.bool true) ∧ Below w.heap.size w w' := by
  obtain ⟨T, hT⟩ : ∃ T, l0.take 129 = T := ⟨_, rfl⟩
  have hTl : T.length ≤ 1000 := by rw [← hT, List.length_take]; omega
  have e1 := mapply_ev (L := T) hTl o.f0 o.f1 o.f2 o.f3.f0 o.f3.f1 o.f3.f2 o.f3.f3 o.f4
  have e2 := check_ev (L := T) hTl
  have e3 := Ev.rounds (msame_ev (L := T) hTl)
  by_cases ho : okT T
  case neg =>
    rw [if_neg ho] at e1 e2
    exact keeps_not A0 c0 l0 T o v w hr0 hc0 hT (Ev.rounds e1) (Ev.rounds e2)
  rw [if_pos ho] at e1 e2
  have hok := okT_apply ho 1 o.f0 o.f2 o.f3.f0 o.f3.f1 o.f3.f2 o.f3.f3 o.f4 hr
  have hl := ho.1
  rcases op_cases ho o hr with ⟨h1, h2, h3⟩ | ⟨h1, hk⟩
  · obtain ⟨k, hk⟩ := Ev.rounds e1
    refine keeps_refused A0 c0 l0 T o v w hr0 hc0 hT _ h1 ⟨k, ?_⟩ (Ev.rounds e2) e3
    rw [hk, h2, h3]
  · have e5 := mmeets_ev hok v.f3
    have hcN := check_ev (L := (applyR T 1 o.f0 o.f2 o.f3.f0 o.f3.f1 o.f3.f2 o.f3.f3 o.f4).1) (by have := hok.1; omega)
    rw [if_pos hok] at hcN
    have hrows := op_rows (T := T) o
    generalize hQ : applyR T 1 o.f0 o.f2 o.f3.f0 o.f3.f1 o.f3.f2 o.f3.f3 o.f4 = Q at *
    obtain ⟨N, er, tx, rs⟩ := Q
    simp only at h1 hk e1 e5 hcN hok hrows
    subst h1
    have hNl := hok.1
    -- the window's rows, if the window is a box
    have hend : ¬ o.f0 = 2 → ¬ o.f0 = 3 → ∃ k, model_Same.f k T N = some true := fun q2 q3 => by
      rcases hk with ⟨h, _⟩ | ⟨h, _⟩ | ⟨_, _, h⟩
      · exact absurd h q2
      · exact absurd h q3
      · rw [h]; exact e3
    have hi : o.f0 = 2 → ∀ x ∈ N.filter (meetB v.f3), x.f0 = o.f2 → x = rowP o.f2 o.f3.f0 o.f3.f1 o.f3.f2 o.f3.f3 o.f4 := fun q2 x hx hf => by
      rcases hk with ⟨_, hN, hne⟩ | ⟨q3, _⟩ | ⟨q, _⟩
      · have hxN := (List.mem_filter.1 hx).1
        rw [hN] at hxN
        rcases mem_ins hxN with h | h
        · exact h
        · exact absurd hf (hne x h)
      · omega
      · exact absurd q2 q
    have htold : ∀ L : List S51, toldR L o.f2 L.length = L.any fun x => decide (x.f0 = o.f2) := fun L => by unfold toldR; rw [List.take_length]
    have hend2 : o.f0 = 2 → meetB v.f3 (rowP o.f2 o.f3.f0 o.f3.f1 o.f3.f2 o.f3.f3 o.f4) = toldR (N.filter (meetB v.f3)) o.f2 (N.filter (meetB v.f3)).length ∧ N.length = T.length + 1 := fun q2 => by
      rcases hk with ⟨_, hN, hne⟩ | ⟨q3, _⟩ | ⟨q, _⟩
      · refine ⟨?_, by rw [hN, ins_length]⟩
        rw [htold, Bool.eq_iff_iff, List.any_eq_true]
        constructor
        · intro h
          exact ⟨rowP o.f2 o.f3.f0 o.f3.f1 o.f3.f2 o.f3.f3 o.f4, List.mem_filter.2 ⟨by rw [hN]; exact ins_mem _ _, h⟩, by simp⟩
        · rintro ⟨x, hx, hf⟩
          have hf' : x.f0 = o.f2 := by simpa using hf
          obtain ⟨hxN, hxm⟩ := List.mem_filter.1 hx
          rw [hN] at hxN
          rcases mem_ins hxN with h | h
          · rw [← h]; exact hxm
          · exact absurd hf' (hne x h)
      · omega
      · exact absurd q2 q
    have hend3 : o.f0 = 3 → toldR (N.filter (meetB v.f3)) o.f2 (N.filter (meetB v.f3)).length = false ∧ N.length + 1 = T.length := fun q3 => by
      rcases hk with ⟨q2, _⟩ | ⟨_, hN, hth⟩ | ⟨_, q, _⟩
      · omega
      · refine ⟨?_, ?_⟩
        · rw [htold, List.any_eq_false]
          intro x hx
          have hxN := (List.mem_filter.1 hx).1
          rw [hN] at hxN
          simpa using (List.mem_filter.1 hxN).2
        · obtain ⟨x, hxT, hxf⟩ : ∃ x ∈ T, x.f0 = o.f2 := by
            rw [← any_th _ T ho.2.1, List.any_eq_true] at hth
            obtain ⟨x, hx, hf⟩ := hth
            exact ⟨x, hx, by simpa using hf⟩
          have hfl := filter_len x T ho.2.1 hxT
          rw [hxf, ← hN] at hfl
          exact hfl
      · exact absurd q3 q
    have hLl : (N.filter (meetB v.f3)).length ≤ 1000 := Nat.le_trans (List.length_filter_le _ _) (by omega)
    have hLr : riseR (N.filter (meetB v.f3)) := hok.2.1.filter _
    have hLm : ∀ x ∈ N.filter (meetB v.f3), meetB v.f3 x = true := fun x hx => (List.mem_filter.1 hx).2
    by_cases q4 : o.f0 = 4
    · have htx : tx = 0 := by
        have h := congrArg (fun q : List S51 × Int × Int × List S51 => q.2.2.1) hQ
        unfold applyR at h
        rw [if_neg (by omega), if_neg (by omega), if_neg (by omega), if_pos q4] at h
        split at h <;> exact h.symm
      subst htx
      cases hb : boxF v.f3.f0 v.f3.f1 v.f3.f2 v.f3.f3
      · rw [hb] at e5
        exact keeps_nobox4 A0 c0 l0 T o v w hr0 hc0 hT N rs (Ev.rounds e1) (Ev.rounds hcN) (hend (by omega) (by omega)) q4 (Ev.rounds e5)
      · rw [hb] at e5
        exact keeps_box4 A0 c0 l0 T o v w hr0 hc0 hT N rs (Ev.rounds e1) (Ev.rounds hcN) (hend (by omega) (by omega)) q4 _ hLl hTl (Ev.rounds e5) hLr hLm hi hend2 hend3 hend
    · have h9 := hrows q4
      injection h9 with h9 h10
      subst h9 h10
      cases hb : boxF v.f3.f0 v.f3.f1 v.f3.f2 v.f3.f3
      · rw [hb] at e5
        exact keeps_nobox A0 c0 l0 T o v w hr0 hc0 hT N (Ev.rounds e1) (Ev.rounds hcN) q4 (Ev.rounds e5)
      · rw [hb] at e5
        exact keeps_box A0 c0 l0 T o v w hr0 hc0 hT N (Ev.rounds e1) (Ev.rounds hcN) q4 _ hLl hTl (Ev.rounds e5) hLr hLm hi hend2 hend3 hend
end Go.Proofs.Ytknlbfandkmeiaa.M
