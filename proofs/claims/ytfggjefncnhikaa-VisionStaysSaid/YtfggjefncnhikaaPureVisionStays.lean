/- VisionStays, over numbers and lists alone: what a snapshot sees stays seen when what is open is done above it. -/
import Derived.Test.YtfggjefncnhikaaAx17
import Derived.Test.YtfggjefncnhikaaVPure
import Derived.Test.YtfggjefncnhikaaVRight
import Derived.WalkArith
namespace Go.Proofs.Ytfggjefncnhikaa.A
set_option linter.unusedVariables false
set_option linter.unusedSimpArgs false
open Go.RowKit Go.Proofs.YtfggjefncnhikaaW.PrintWords Go.Proofs.YtfggjefncnhikaaW.PrintLast

theorem stays_l0 {was : Bool} {snap a : Int} {l : List S44} {r m x b c d e v ow sn2 : Int} {rd2 : Bool} (hn : l.length ≤ 500) (hw : ∀ y ∈ l, wf44 y)
    (hend : ∀ top : Int, snap ≤ top → (∀ y ∈ l, y.f1 ≤ top) → Ev (fun k => if top > 9223372036854775808 then some true else (gazetteerlaw17_copied.f a l).bind fun bt198 => gazetteerlaw17_VisionStays.l1 k was top (bt198.2.length : Int) 0 r m x b c d e v ow rd2 sn2 bt198.1 bt198.2) true) :
    ∀ (n i : Nat) (top : Int), i + n = l.length → snap ≤ top → (∀ j, (h : j < l.length) → j < i → l[j].f1 ≤ top) → Ev (fun k => gazetteerlaw17_VisionStays.l0 k was top l (l.length : Int) (i : Int) a l r m x b c d e v ow rd2 sn2) true := by
  intro n
  induction n with
  | zero =>
    intro i top hi hs ht
    refine Ev.step (fun k => ?_) (hend top hs (fun y hy => ?_))
    · simp only [gazetteerlaw17_VisionStays.l0]
      rw [if_neg (by omega)]
    · obtain ⟨j, hj, rfl⟩ := List.mem_iff_getElem.1 hy
      exact ht j hj (by omega)
  | succ n ih =>
    intro i top hi hs ht
    have hlt : i < l.length := by omega
    refine Ev.step (fun k => ?_) (ih (i + 1) (mx top l[i].f1) (by omega) (by unfold mx; split <;> omega) (fun j hj hji => ?_))
    · simp only [gazetteerlaw17_VisionStays.l0]
      rw [if_pos (by omega), if_pos (by omega), if_pos (by omega), rd_get hlt, wrap_up (by omega)]
    · by_cases hj' : j = i
      · subst hj'
        unfold mx
        split <;> omega
      · have := ht j hj (by omega)
        unfold mx
        split <;> omega
theorem prs_set {l : List S44} {i : Nat} {y : S44} : prs (l.set i y) = (prs l).set i (y.f0, y.f1) := by
  simp [prs, List.map_set]
theorem stays_l1 {a snap : Int} {L0 : List (Int × Int)} {r m x b c d e v : Int} (hr : 0 ≤ r) (hm : 0 ≤ m) (hs : 0 ≤ snap) (ht : tupF r m x b c d e = true) :
    ∀ (n i : Nat) (top : Int) (g : List S44), g.length ≤ 500 → i + n = g.length → snap ≤ top → top + n ≤ 9223372036854776400 → (∀ y ∈ g, wf44 y) → (∀ y ∈ g, y.f1 ≤ top) → rightF a (prs g) = true → Above snap L0 (prs g) →
    Ev (fun k => gazetteerlaw17_VisionStays.l1 k (countsF 0 true snap a L0 m && !countsF 0 true snap a L0 x) top (g.length : Int) (i : Int) r m x b c d e v 0 true snap a g) true := by
  intro n
  induction n with
  | zero =>
    intro i top g hn hi hst hto hw hle hrt hab
    refine Ev.ret fun k => ?_
    simp only [gazetteerlaw17_VisionStays.l1]
    rw [if_neg (by omega)]
  | succ n ih =>
    intro i top g hn hi hst hto hw hle hrt hab
    have hlt : i < g.length := by omega
    have sees : ∀ h : List S44, h.length ≤ 500 → (∀ y ∈ h, wf44 y) → rightF a (prs h) = true → Above snap L0 (prs h) →
        vision_Sees.f a h 0 true snap r m x b c d e v = some (countsF 0 true snap a L0 m && !countsF 0 true snap a L0 x, 0) := fun h h1 h2 h3 h4 => by
      rw [sees_f h1 h2 hr hm]
      unfold seesF
      rw [if_pos h3, if_pos ht, h4.counts hs, h4.counts hs]
    by_cases hz : g[i].f1 = 0
    · have hwr : IntKind.u64.wrap (top + 1) = top + 1 := by simp only [IntKind.wrap_u64]; omega
      have hab' : Above snap L0 (prs (g.set i ⟨g[i].f0, top + 1⟩)) := by
        rw [prs_set]
        exact Above.set (N := top + 1) (q := (g[i].f0, g[i].f1)) hab (prs_get hlt) hz (by omega) hs
      have hrt' : rightF a (prs (g.set i ⟨g[i].f0, top + 1⟩)) = true := by
        rw [prs_set]
        refine right_set (p := (g[i].f0, g[i].f1)) hrt (prs_get hlt) (fun q hq => ?_)
        obtain ⟨y, hy, rfl⟩ := List.mem_map.1 hq
        have := hle y hy
        show y.f1 < top + 1
        omega
      have hw' : ∀ y ∈ g.set i ⟨g[i].f0, top + 1⟩, wf44 y := fun y hy => by
        rcases List.mem_or_eq_of_mem_set hy with hy | rfl
        · exact hw y hy
        · have htop : 0 ≤ top + 1 ∧ top + 1 ≤ 18446744073709551615 := by omega
          exact ⟨(hw _ (List.getElem_mem hlt)).1, WalkArith.wf_u64 htop⟩
      have hle' : ∀ y ∈ g.set i ⟨g[i].f0, top + 1⟩, y.f1 ≤ top + 1 := fun y hy => by
        rcases List.mem_or_eq_of_mem_set hy with hy | rfl
        · have := hle y hy; omega
        · exact Int.le_refl _
      have hl' : (g.set i ⟨g[i].f0, top + 1⟩).length = g.length := List.length_set ..
      refine Ev.step (fun k => ?_) (by
        have := ih (i + 1) (top + 1) (g.set i ⟨g[i].f0, top + 1⟩) (by omega) (by omega) (by omega) (by omega) hw' hle' hrt' hab'
        rw [hl'] at this
        exact this)
      simp only [gazetteerlaw17_VisionStays.l1]
      rw [if_pos (by omega), if_pos (by omega), if_pos (by omega), rd_get hlt, if_pos hz, hwr, wrap_up (by omega), Int.toNat_natCast]
      simp only [Option.bind_some]
      rw [sees _ (by omega) hw' hrt' hab']
      simp
    · refine Ev.step (fun k => ?_) (ih (i + 1) top g hn (by omega) hst (by omega) hw hle hrt hab)
      simp only [gazetteerlaw17_VisionStays.l1]
      rw [if_pos (by omega), if_pos (by omega), if_pos (by omega), rd_get hlt, if_neg hz, wrap_up (by omega), sees _ hn hw hrt hab]
      simp
theorem VisionStays_pure : VisionStays_Pure := by
  intro x0 x1 x2 w0 w1 w2
  obtain ⟨hf, _, hw⟩ := w0
  obtain ⟨hrow, hmin, hmax, _, _⟩ := w2
  have b0 := u64_bounds hf
  have b3 := u64_bounds hmin
  have b4 := u64_bounds hmax
  have b2 := bounds_u32 hrow
  have b5 := u64_bounds w1
  refine Ev.rounds ?_
  unfold gazetteerlaw17_VisionStays.f
  rw [wakes_f]
  simp only [Option.bind_some, if_true]
  by_cases hn : 500 < x0.f1.length
  · have h5 : (x0.f1.length : Int) > 500 := by omega
    simp only [if_pos h5]
    exact Ev.now _
  have hn : x0.f1.length ≤ 500 := by omega
  have h5 : ¬ (x0.f1.length : Int) > 500 := by omega
  simp only [if_neg h5]
  rw [sees_f hn hw b2.1 b3.1]
  simp only [Option.bind_some]
  unfold seesF
  by_cases h1 : rightF x0.f0 (prs x0.f1) = true
  · by_cases h2 : tupF x2.f0 x2.f1 x2.f2 x2.f3.f0 x2.f3.f1 x2.f3.f2 x2.f3.f3 = true
    · simp only [if_pos h1, if_pos h2, if_true]
      refine stays_l0 (snap := x1) hn hw (fun top hst hle => ?_) x0.f1.length 0 x1 (by omega) (Int.le_refl _) (fun j _ h => by omega)
      by_cases ht : top > 9223372036854775808
      · simp only [if_pos ht]
        exact Ev.now _
      · simp only [if_neg ht]
        rw [copied_f hn]
        exact stays_l1 (L0 := prs x0.f1) b2.1 b3.1 b5.1 h2 x0.f1.length 0 top x0.f1 hn (by omega) hst (by omega) hw hle h1 (Above.refl _ _)
    · simp only [if_pos h1, if_neg h2]
      exact Ev.now _
  · simp only [if_neg h1]
    exact Ev.now _
end Go.Proofs.Ytfggjefncnhikaa.A
