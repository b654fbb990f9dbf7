-- By pr.py, a program of this session's, over the kit's print; with contracts of the session's own. Lean checks it.
import Derived.Test.YtfggjefncnhikaaAx0
namespace Go.Proofs.Ytfggjefncnhikaa.A
open Go.RowKit Go.Proofs.YtfggjefncnhikaaW.PrintWords Go.Proofs.YtfggjefncnhikaaW.PrintLast Go.Proofs.YtfggjefncnhikaaW.PrintMore
attribute [local go_sem] max2_int min2_int max_two min_two max_three min_three max_four min_four   -- for this text's walks alone
set_option linter.unusedVariables false
set_option linter.unusedSimpArgs false

--@F vision_Check
def prs (l : List S44) : List (Int × Int) := l.map fun x => (x.f0, x.f1)
theorem prs_length (l : List S44) : (prs l).length = l.length := by simp [prs]
theorem prs_fts {w : World} {A : Option Addr} {l : List S44} (h : Kd.C k44 w A l.length l) : Fts w w.heap.size A (prs l) := by
  intro hne
  have hl : 0 < l.length := by
    rcases l with _ | ⟨x, l⟩
    · exact absurd rfl hne
    · simp
  obtain ⟨ad, rfl, c0, _⟩ := at_T44 h 0 (by omega) (by omega)
  refine ⟨ad, rfl, ?_, fun i p hp => ?_⟩
  · have := World.block_lt_of_cell? _ _ c0
    rw [block_of_add] at this
    exact this
  · obtain ⟨hi, e⟩ := List.getElem?_eq_some_iff.1 hp
    rw [prs_length] at hi
    obtain ⟨ad', e', d0, d1⟩ := at_T44 h i (by omega) (by omega)
    cases e'
    have hx : p = ((rd_T44 l i).f0, (rd_T44 l i).f1) := by
      rw [← e]
      simp [prs, rd_T44, List.getD_eq_getElem?_getD, List.getElem?_eq_getElem hi]
    rw [hx]
    rw [Int.toNat_natCast] at d0 d1
    exact ⟨d0, d1⟩
def okFates (l : List S44) : Bool := decide (l.length ≤ 500) && l.all fun x => (Lit.int .u64 x.f1).wf && decide (0 ≤ x.f1)
def vision_Check.f (a0_0 : Int) (l0_1 : List S44) : Option Int := if okFates l0_1 = true then some (if rightF a0_0 (prs l0_1) then 0 else 270) else none
theorem vision_Check.calls (a0_0 : Int) (A0_1 : Option Addr) (c0_1 : Nat) (l0_1 : List S44) (r : Int) (w : World) (hr0_1 : Kd.C k44 w A0_1 l0_1.length l0_1) (hc0_1 : l0_1.length ≤ c0_1) (h : vision_Check.f a0_0 l0_1 = some r) :
    Calls Try.prog 10 #[.agg #[.int .u64 a0_0, .slice A0_1 l0_1.length c0_1]] w fun e w' => e = .returned (.int .i64 r) ∧ Below w.heap.size w w' := by
  unfold vision_Check.f okFates at h
  split at h
  · rename_i hk
    simp only [Bool.and_eq_true, decide_eq_true_eq, List.all_eq_true] at hk
    injection h with h
    subst h
    have := check_any a0_0 (prs l0_1) A0_1 c0_1 w (by rw [prs_length]; exact hk.1) (prs_fts hr0_1) (fun p hp => by
      obtain ⟨x, hx, rfl⟩ := List.mem_map.1 hp
      exact hk.2 x hx)
    rw [prs_length] at this
    exact this
  · cases h

end Go.Proofs.Ytfggjefncnhikaa.A
