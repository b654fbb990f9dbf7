-- By pr.py, a program of this session's, over the kit's print; with contracts of the session's own. Lean checks it.
import Derived.Test.YtfggjefncnhikaaAx0
import Derived.Test.YtfggjefncnhikaaAx1
namespace Go.Proofs.Ytfggjefncnhikaa.A
open Go.RowKit Go.Proofs.YtfggjefncnhikaaW.PrintWords Go.Proofs.YtfggjefncnhikaaW.PrintLast Go.Proofs.YtfggjefncnhikaaW.PrintMore
attribute [local go_sem] max2_int min2_int max_two min_two max_three min_three max_four min_four   -- for this text's walks alone
set_option linter.unusedVariables false
set_option linter.unusedSimpArgs false

--@F vision_fate
def vision_fate.f (a0_0 : Int) (l0_1 : List S44) (a1 : Int) : Option (Int × Bool × Bool) := if rightF a0_0 (prs l0_1) = true then some (fateF a0_0 (prs l0_1) a1) else none
theorem right_short {a : Int} {l : List S44} (h : rightF a (prs l) = true) : (prs l).length ≤ 500 := by
  have := (rightF_true.1 h).2.1
  omega
theorem vision_fate.calls (a0_0 : Int) (A0_1 : Option Addr) (c0_1 : Nat) (l0_1 : List S44) (a1 : Int) (r1 : Int) (r2 : Bool) (r3 : Bool) (w : World) (hr0_1 : Kd.C k44 w A0_1 l0_1.length l0_1) (hc0_1 : l0_1.length ≤ c0_1) (h : vision_fate.f a0_0 l0_1 a1 = some (r1, r2, r3)) :
    Calls Try.prog 32 #[.agg #[.int .u64 a0_0, .slice A0_1 l0_1.length c0_1], .int .u64 a1] w fun e w' => e = .returned (.tuple #[.int .u64 r1, .bool r2, .bool r3]) ∧ Below w.heap.size w w' := by
  unfold vision_fate.f at h
  split at h
  · rename_i hk
    injection h with h
    have := fate_any a0_0 (prs l0_1) A0_1 c0_1 a1 w (right_short hk) (prs_fts hr0_1) (rightF_rising hk)
    rw [prs_length, h] at this
    exact this
  · cases h

end Go.Proofs.Ytfggjefncnhikaa.A
