-- By pr.py, a program of this session's, over the kit's print; with contracts of the session's own. Lean checks it.
import Derived.Test.YtfggjefncnhikaaAx0
import Derived.Test.YtfggjefncnhikaaAx1
import Derived.Test.YtfggjefncnhikaaAx5
namespace Go.Proofs.Ytfggjefncnhikaa.A
open Go.RowKit Go.Proofs.YtfggjefncnhikaaW.PrintWords Go.Proofs.YtfggjefncnhikaaW.PrintLast Go.Proofs.YtfggjefncnhikaaW.PrintMore
attribute [local go_sem] max2_int min2_int max_two min_two max_three min_three max_four min_four   -- for this text's walks alone
set_option linter.unusedVariables false
set_option linter.unusedSimpArgs false

--@F vision_look_sees
def vision_look_sees.f (a0_0 : Int) (a0_1 : Bool) (a0_2 : Int) (a0_3 : Int) (l0_4 : List S44) (a1_0 a1_1 a1_2 a1_3 a1_4 a1_5 a1_6 a1_7 : Int) : Option Bool :=
  if rightF a0_3 (prs l0_4) = true then some (countsF a0_0 a0_1 a0_2 a0_3 (prs l0_4) a1_1 && !countsF a0_0 a0_1 a0_2 a0_3 (prs l0_4) a1_2) else none
theorem vision_look_sees.calls (a0_0 : Int) (a0_1 : Bool) (a0_2 : Int) (a0_3 : Int) (A0_4 : Option Addr) (c0_4 : Nat) (l0_4 : List S44) (a1_0 a1_1 a1_2 a1_3 a1_4 a1_5 a1_6 a1_7 : Int) (r : Bool) (w : World) (hr0_4 : Kd.C k44 w A0_4 l0_4.length l0_4) (hc0_4 : l0_4.length ≤ c0_4) (h : vision_look_sees.f a0_0 a0_1 a0_2 a0_3 l0_4 a1_0 a1_1 a1_2 a1_3 a1_4 a1_5 a1_6 a1_7 = some r) :
    Calls Try.prog 29 #[.agg #[.int .u64 a0_0, .bool a0_1, .int .u64 a0_2, .int .u64 a0_3, .slice A0_4 l0_4.length c0_4], .agg #[.int .u32 a1_0, .int .u64 a1_1, .int .u64 a1_2, .int .i64 a1_3, .int .i64 a1_4, .int .i64 a1_5, .int .i64 a1_6, .int .i64 a1_7]] w fun e w' => e = .returned (.bool r) ∧ Below w.heap.size w w' := by
  unfold vision_look_sees.f at h
  split at h
  · rename_i hk
    injection h with h
    have := sees_any a0_0 a0_1 a0_2 a0_3 (prs l0_4) A0_4 c0_4 a1_0 a1_1 a1_2 a1_3 a1_4 a1_5 a1_6 a1_7 w (right_short hk) (prs_fts hr0_4) (rightF_rising hk)
    rw [prs_length, h] at this
    exact this
  · cases h

end Go.Proofs.Ytfggjefncnhikaa.A
