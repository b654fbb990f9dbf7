/- What the row of this claim reaches. No condition. -/
import Derived.Test.YtknlbfandkmeiaaQMIter
set_option linter.unusedVariables false
set_option linter.unusedSimpArgs false
namespace Go.Proofs.Ytknlbfandkmeiaa.M
open Go.RowKit Go.Proofs.YtknlbfandkmeiaaW.PrintWords Go.Proofs.YtknlbfandkmeiaaW.PrintLast Go.Proofs.YtknlbfandkmeiaaW.PrintMore
def model_Meets.f (k : Nat) (l0_0 : List S51) (a1_0 a1_1 a1_2 a1_3 : Int) : Option (List S51 × Int) :=
  (model_Check.f k l0_0).bind fun e => if e = 0 then (key_Check.f 1 a1_0 a1_1 a1_2 a1_3).bind fun e2 => if e2 = 0 then (if l0_0.length ≤ 1000 then some (l0_0.filter (meetB ⟨a1_0, a1_1, a1_2, a1_3⟩), 0) else none) else some ([], 314) else some ([], 320)
set_option maxHeartbeats 4000000 in
set_option maxRecDepth 100000 in
theorem meets_any (k : Nat) (A0_0 : Option Addr) (c0_0 : Nat) (l0_0 : List (S51)) (a1_0 : Int) (a1_1 : Int) (a1_2 : Int) (a1_3 : Int) (r1 : List (S51)) (r2 : Int) (w : World) (hr0_0 : Kd.C k51 w A0_0 l0_0.length l0_0) (hc0_0 : l0_0.length ≤ c0_0) (h : model_Meets.f k l0_0 a1_0 a1_1 a1_2 a1_3 = some (r1, r2)) :
    Calls Try.prog 25 #[.agg #[.slice A0_0 l0_0.length c0_0], .agg #[.int .i64 a1_0, .int .i64 a1_1, .int .i64 a1_2, .int .i64 a1_3]] w fun e w' => ∃ v0_ : Value, e = .returned (.tuple #[v0_, .int .i64 r2]) ∧ Kd.R k51 51 w' w.heap.size (fun _ => True) v0_ r1 ∧ Below w.heap.size w w' := by
  unfold model_Meets.f at h
  obtain ⟨e, he, hx⟩ := Option.bind_eq_some_iff.1 h
  clear h
  obtain ⟨W0, hW0⟩ : ∃ W, ((w.alloc (.cells #[.slice A0_0 l0_0.length c0_0] 24)).alloc (.cells #[.int .i64 a1_0, .int .i64 a1_1, .int .i64 a1_2, .int .i64 a1_3] 36)) = W := ⟨_, rfl⟩
  have p0 : Blk W0 w.heap.size 24 #[.slice A0_0 l0_0.length c0_0] := by rw [← hW0]; exact (Blk.new w 24 _).alloc _
  have p1 : Blk W0 (w.heap.size + 1) 36 #[.int .i64 a1_0, .int .i64 a1_1, .int .i64 a1_2, .int .i64 a1_3] := by rw [← hW0]; exact Blk.newAt (by simp)
  have hB0 : Below w.heap.size w W0 := by rw [← hW0]; exact keep_below_alloc _ (keep_below_alloc _ (Below.refl _ _))
  have HW := Lib.hid hW0
  have H1 := Lib.hid (model_Check.calls k A0_0 c0_0 l0_0 e W0 (Kd.C_below hr0_0 hB0) hc0_0 he)
  have HC := Lib.hid hr0_0
  clear hW0 hr0_0 he
  by_cases d1 : e = 0
  · subst d1
    rw [if_pos rfl] at hx
    obtain ⟨e2, he2, hy⟩ := Option.bind_eq_some_iff.1 hx
    clear hx
    have H2 := fun W => Lib.hid (key_Check.calls 1 a1_0 a1_1 a1_2 a1_3 e2 W he2)
    clear he2
    by_cases d2 : e2 = 0
    · subst d2
      rw [if_pos rfl] at hy
      by_cases hn : l0_0.length ≤ 1000
      case neg => rw [if_neg hn] at hy; cases hy
      rw [if_pos hn] at hy
      injection hy with hy
      injection hy with h1 h2
      subst h1 h2
      have HM := fun W => Lib.hid (maker_any A0_0 l0_0.length c0_0 ⟨a1_0, a1_1, a1_2, a1_3⟩ W)
      have HQ : ∀ W4 : World, Below w.heap.size w W4 → Hid (Calls Try.prog 50 #[.func (.func 72) #[] #[.pointer (some ⟨W4.heap.size, 0, none⟩), .pointer (some ⟨W4.heap.size + 1, 0, none⟩)]] ((W4.alloc (.cells #[.slice A0_0 l0_0.length c0_0] 22)).alloc (.cells (winC ⟨a1_0, a1_1, a1_2, a1_3⟩) 36)) fun e w' => ∃ v, e = .returned v ∧ w'.ownsRow (W4.heap.size + 1 + 1) 51 6 v (l0_0.filter (meetB ⟨a1_0, a1_1, a1_2, a1_3⟩)).length (rowOf (l0_0.filter (meetB ⟨a1_0, a1_1, a1_2, a1_3⟩))) ∧ Below (W4.heap.size + 1 + 1) ((W4.alloc (.cells #[.slice A0_0 l0_0.length c0_0] 22)).alloc (.cells (winC ⟨a1_0, a1_1, a1_2, a1_3⟩) 36)) w') := fun W4 hB4 => by
        have hx1 : Blk ((W4.alloc (.cells #[.slice A0_0 l0_0.length c0_0] 22)).alloc (.cells (winC ⟨a1_0, a1_1, a1_2, a1_3⟩) 36)) (W4.heap.size + 1) 36 (winC ⟨a1_0, a1_1, a1_2, a1_3⟩) := Blk.newAt (by simp)
        have hx0 : Blk ((W4.alloc (.cells #[.slice A0_0 l0_0.length c0_0] 22)).alloc (.cells (winC ⟨a1_0, a1_1, a1_2, a1_3⟩) 36)) W4.heap.size 22 #[.slice A0_0 l0_0.length c0_0] := (Blk.new W4 22 _).alloc _
        refine Lib.hid ((collect_any ⟨a1_0, a1_1, a1_2, a1_3⟩ A0_0 l0_0 c0_0 W4.heap.size (W4.heap.size + 1) _ (Kd.C_alloc (Kd.C_alloc (Kd.C_below HC.out hB4) _) _) hn (by simp) hx1).mono ?_)
        rintro e w' ⟨v, rfl, ho, hb⟩
        simp only [World.size_alloc] at ho hb
        exact ⟨v, rfl, ho, hb⟩
      have g0 := p0.cell 0
      simp at g0
      go_enter Try.func25, Try.ntmps25
      go_wp2_with (first
        | (go_at_call 24; rw [HW.out]; (with_reducible refine H1.out.mono ?_); rintro e w1 ⟨rfl, hb1⟩; have q0 := p0.keep hb1; have q1 := p1.keep hb1; have g0 := q0.cell 0; have g1 := q1.cell 0; have g2 := q1.cell 1; have g3 := q1.cell 2; have g4 := q1.cell 3; simp at g0 g1 g2 g3 g4)
        | (go_at_call 49; (with_reducible refine (H2 _).out.mono ?_); rintro e w2 ⟨rfl, hb2⟩; have r0 := q0.keep hb2; have r1 := q1.keep hb2; have f0 := r0.cell 0; have f1 := r1.cell 0; have f2 := r1.cell 1; have f3 := r1.cell 2; have f4 := r1.cell 3; simp at f0 f1 f2 f3 f4; have hB2 := keep_below (keep_below hB0 hb1) hb2)
        | (go_at_call 51; (with_reducible refine (HM _).out.mono ?_); rintro e w5 ⟨rfl, rfl⟩)
        | (go_at_call 50; (with_reducible refine (HQ _ hB2).out.mono ?_); rintro e w6 ⟨vq, rfl, ho6, hb6⟩))
      refine bodyPost_ret (v := .tuple #[vq, .int .i64 0]) (by simp [results, Try.results25, go_sem, *]) rfl ⟨vq, rfl, R_of_row (fun _ _ => trivial) (own_weaken ho6 (by have := hB2.size; omega)), ?_⟩
      exact keep_below (keep_below_alloc _ (keep_below_alloc _ hB2)) (by simpa using hb6)
    · rw [if_neg d2] at hy
      injection hy with hy
      injection hy with h1 h2
      subst h1 h2
      have z4 : (e2 != 0) = true := bne_iff_ne.mpr d2
      have z4b : (e2 == 0) = false := beq_eq_false_iff_ne.mpr d2
      clear d2
      go_enter Try.func25, Try.ntmps25
      go_wp2_with (first
        | (go_at_call 24; rw [HW.out]; (with_reducible refine H1.out.mono ?_); rintro e w1 ⟨rfl, hb1⟩; have q1 := p1.keep hb1; have g1 := q1.cell 0; have g2 := q1.cell 1; have g3 := q1.cell 2; have g4 := q1.cell 3; simp at g1 g2 g3 g4)
        | (go_at_call 49; (with_reducible refine (H2 _).out.mono ?_); rintro e w2 ⟨rfl, hb2⟩))
      refine bodyPost_ret (v := .tuple #[.slice none 0 0, .int .i64 314]) (by simp [results, Try.results25, go_sem, *]) rfl ⟨_, rfl, Kd.R_nil _ _ _ _ _, keep_below (keep_below hB0 hb1) hb2⟩
  · rw [if_neg d1] at hx
    injection hx with hy
    injection hy with h1 h2
    subst h1 h2
    have z4 : (e != 0) = true := bne_iff_ne.mpr d1
    have z4b : (e == 0) = false := beq_eq_false_iff_ne.mpr d1
    clear d1
    go_enter Try.func25, Try.ntmps25
    go_wp2_with (go_at_call 24; rw [HW.out]; (with_reducible refine H1.out.mono ?_); rintro e w1 ⟨rfl, hb1⟩)
    refine bodyPost_ret (v := .tuple #[.slice none 0 0, .int .i64 320]) (by simp [results, Try.results25, go_sem, *]) rfl ⟨_, rfl, Kd.R_nil _ _ _ _ _, keep_below hB0 hb1⟩
end Go.Proofs.Ytknlbfandkmeiaa.M
