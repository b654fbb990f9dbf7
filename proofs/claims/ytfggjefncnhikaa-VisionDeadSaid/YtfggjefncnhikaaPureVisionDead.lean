/- VisionDead, over numbers and lists alone: the program's answer is the reference's. -/
import Derived.Test.YtfggjefncnhikaaAx19
import Derived.Test.YtfggjefncnhikaaVPure
namespace Go.Proofs.Ytfggjefncnhikaa.A
set_option linter.unusedVariables false
set_option linter.unusedSimpArgs false
open Go.RowKit Go.Proofs.YtfggjefncnhikaaW.PrintWords Go.Proofs.YtfggjefncnhikaaW.PrintLast

theorem VisionDead_pure : VisionDead_Pure := by
  intro x0 x1 x2 w0 w1 w2
  obtain ⟨hf, _, hw⟩ := w0
  obtain ⟨hrow, hmin, hmax, _, _⟩ := w2
  have b0 := u64_bounds hf
  have b3 := u64_bounds hmin
  have b4 := u64_bounds hmax
  have b2 := bounds_u32 hrow
  refine Ev.rounds ?_
  unfold gazetteerlaw17_VisionDead.f
  rw [wakes_f]
  simp only [Option.bind_some, if_true]
  by_cases hn : 500 < x0.f1.length
  · have h5 : (x0.f1.length : Int) > 500 := by omega
    simp only [if_pos h5]
    exact Ev.now _
  have hn : x0.f1.length ≤ 500 := by omega
  have h5 : ¬ (x0.f1.length : Int) > 500 := by omega
  simp only [if_neg h5]
  rw [copied_f hn]
  simp only [Option.bind_some]
  unfold vision_Dead.f
  rw [sees_f hn hw b2.1 b3.1]
  unfold seesF
  by_cases h1 : rightF x0.f0 (prs x0.f1) = true
  · by_cases h2 : tupF x2.f0 x2.f1 x2.f2 x2.f3.f0 x2.f3.f1 x2.f3.f2 x2.f3.f3 = true
    · have hL : ∀ p ∈ prs x0.f1, 0 ≤ p.2 := fun p hp => by
        obtain ⟨y, hy, rfl⟩ := List.mem_map.1 hp
        exact (u64_bounds (hw y hy).2).1
      have hm1 : 1 ≤ x2.f1 := by
        unfold tupF at h2
        simp only [Bool.and_eq_true, decide_eq_true_eq] at h2
        exact h2.1.1.1.2
      obtain ⟨e1, z1, c1⟩ := fate_ref (id := x2.f1) h1 b3.1 hL
      obtain ⟨e2, z2, c2⟩ := fate_ref (id := x2.f2) h1 b4.1 hL
      simp only [if_pos h1, if_pos h2, Option.bind_some, if_true]
      have q1 : vision_fate.f x0.f0 x0.f1 x2.f1 = some (fateF x0.f0 (prs x0.f1) x2.f1) := by unfold vision_fate.f; rw [if_pos h1]
      have q2 : vision_fate.f x0.f0 x0.f1 x2.f2 = some (fateF x0.f0 (prs x0.f1) x2.f2) := by unfold vision_fate.f; rw [if_pos h1]
      rw [q1, q2, e1, e2]
      have r1 := fate_ev (a := x0.f0) (id := x2.f1) hn
      have r2 := fate_ev (a := x0.f0) (id := x2.f2) hn
      have r0 := right_ev (a := x0.f0) hn b0.1 hw
      rw [h1] at r0
      have z3 : (refF x0.f0 (prs x0.f1) x2.f1).1 ≠ 0 := fun h => by have := z1 h; omega
      generalize refF x0.f0 (prs x0.f1) x2.f1 = p at *
      generalize refF x0.f0 (prs x0.f1) x2.f2 = q at *
      obtain ⟨p1, p2⟩ := p
      obtain ⟨q1', q2'⟩ := q
      simp only at z3 c1 c2
      have hd : Ev (fun k => gazetteerref17_Dead.f k x0.f0 x0.f1 x1 x2.f0 x2.f1 x2.f2 x2.f3.f0 x2.f3.f1 x2.f3.f2 x2.f3.f3 x2.f4) (decide (p1 = 3) || (decide (q1' = 1) && decide (q2' ≤ x1))) := by
        unfold gazetteerref17_Dead.f
        refine Ev.bind r1 (Ev.bind r2 (Ev.all ?_))
        by_cases h3 : p1 = 3 <;> by_cases h4 : q1' = 1 <;> simp [h3, h4]
      rcases c1 with rfl | rfl | rfl | rfl
      · exact absurd rfl z3
      all_goals
        by_cases h4 : q1' = 1
        all_goals
          simp only [Option.bind_some]
          simp [h4]
          refine Ev.bind r0 ?_
          simp only [if_true]
          rw [rtup_f, h2]
          simp only [Option.bind_some, if_true]
          first
            | (refine Ev.bind hd (Ev.all ?_); simp [h4]; done)
            | (simpa [h4] using hd)
    · simp only [if_pos h1, if_neg h2, Option.bind_some]
      have r0 := right_ev (a := x0.f0) hn b0.1 hw
      rw [h1] at r0
      simp
      refine Ev.bind r0 ?_
      simp only [if_true]
      rw [rtup_f, Bool.eq_false_iff.2 h2]
      simp
      exact Ev.now _
  · simp only [if_neg h1, Option.bind_some]
    have r0 := right_ev (a := x0.f0) hn b0.1 hw
    rw [Bool.eq_false_iff.2 h1] at r0
    simp
    refine Ev.bind r0 ?_
    simp
    exact Ev.now _
end Go.Proofs.Ytfggjefncnhikaa.A
