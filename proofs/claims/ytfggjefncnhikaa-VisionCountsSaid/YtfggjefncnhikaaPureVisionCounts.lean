/- VisionCounts, over numbers and lists alone: what counts and what is seen by the program is what counts and is seen by the reference. -/
import Derived.Test.YtfggjefncnhikaaAx16
import Derived.Test.YtfggjefncnhikaaVPure
namespace Go.Proofs.Ytfggjefncnhikaa.A
set_option linter.unusedVariables false
set_option linter.unusedSimpArgs false
open Go.RowKit Go.Proofs.YtfggjefncnhikaaW.PrintWords Go.Proofs.YtfggjefncnhikaaW.PrintLast

theorem VisionCounts_pure : VisionCounts_Pure := by
  intro x0 x1 x2 w0 w1 w2
  obtain ⟨hf, _, hw⟩ := w0
  obtain ⟨hrow, hmin, hmax, _, _⟩ := w2
  have b0 := u64_bounds hf
  have b3 := u64_bounds hmin
  have b4 := u64_bounds hmax
  have b2 := bounds_u32 hrow
  have b5 := u64_bounds w1.2.2
  refine Ev.rounds ?_
  unfold gazetteerlaw17_VisionCounts.f
  rw [wakes_f]
  simp only [Option.bind_some, if_true]
  by_cases hn : 500 < x0.f1.length
  · have h5 : (x0.f1.length : Int) > 500 := by omega
    simp only [if_pos h5]
    exact Ev.now _
  have hn : x0.f1.length ≤ 500 := by omega
  have h5 : ¬ (x0.f1.length : Int) > 500 := by omega
  simp only [if_neg h5]
  rw [copied_f hn]
  simp only [Option.bind_some]
  rw [check_f hn hw, sees_f hn hw b2.1 b3.1, counts_f hn hw, counts_f hn hw]
  simp only [Option.bind_some]
  have r0 := right_ev (a := x0.f0) hn b0.1 hw
  refine Ev.bind r0 ?_
  unfold seesF
  by_cases h1 : rightF x0.f0 (prs x0.f1) = true
  · have hL : ∀ p ∈ prs x0.f1, 0 ≤ p.2 := fun p hp => by
      obtain ⟨y, hy, rfl⟩ := List.mem_map.1 hp
      exact (u64_bounds (hw y hy).2).1
    have s1 := same_counts (own := x1.f0) (reads := x1.f1) (snap := x1.f2) (id := x2.f1) h1 b3.1 b5.1 hL
    have s2 := same_counts (own := x1.f0) (reads := x1.f1) (snap := x1.f2) (id := x2.f2) h1 b4.1 b5.1 hL
    simp only [if_pos h1, if_true, h1, Bool.true_and]
    refine Ev.bind (counts_ev hn) ?_
    rw [s1]
    simp only [bne_self_eq_false, Bool.false_eq_true, if_false]
    refine Ev.bind (counts_ev hn) ?_
    rw [s2]
    simp only [bne_self_eq_false]
    by_cases h2 : tupF x2.f0 x2.f1 x2.f2 x2.f3.f0 x2.f3.f1 x2.f3.f2 x2.f3.f3 = true
    · simp only [if_pos h2]
      refine Ev.step (fun k => by simp only [gazetteerlaw17_VisionCounts.j0, Bool.false_eq_true, if_false, rtup_f, Option.bind_some, if_pos h2, if_true]; rfl) (Ev.bind (sees_ev hn) (Ev.all ?_))
      rw [s1, s2]
      simp
    · simp only [if_neg h2]
      refine Ev.ret fun k => ?_
      simp only [gazetteerlaw17_VisionCounts.j0, Bool.false_eq_true, if_false, rtup_f, Option.bind_some, if_neg h2]
      rfl
  · simp only [if_neg h1, if_true, Bool.false_eq_true, if_false]
    refine Ev.all ?_
    simp [h1]
end Go.Proofs.Ytfggjefncnhikaa.A
