/- What the row of this claim reaches. No condition. -/
import Derived.Test.YtknlbfandkmeiaaQMPure3
import Derived.Test.YtknlbfandkmeiaaQX4
set_option linter.unusedVariables false
set_option linter.unusedSimpArgs false
namespace Go.Proofs.Ytknlbfandkmeiaa.M
open Go.RowKit Go.Proofs.YtknlbfandkmeiaaW.PrintWords Go.Proofs.YtknlbfandkmeiaaW.PrintLast Go.Proofs.YtknlbfandkmeiaaW.PrintMore
theorem wakes_true : Ev (fun k => gazetteerlaw22_wakes.f k) true := Ev.of (fun k => gazetteerlaw22_wakes.mono k) (k := 20) (by kernel_rfl)
theorem msame_loop (L : List S51) (hL : L.length ≤ 1000) : ∀ (rest : List S51) (i : Nat), L.drop i = rest → Ev (fun n => api_Row_48.l0 n L L (L.length : Int) (i : Int)) true
  | [], i, h => by
    have hi := at_nil h
    refine Ev.ret fun n => ?_
    rw [api_Row_48.l0, if_neg (by omega)]
  | x :: rest, i, h => by
    obtain ⟨hi, hx, hd⟩ := at_cons h
    have ih := msame_loop L hL rest (i + 1) hd
    have hw : wrap64 ((i : Int) + 1) = ((i + 1 : Nat) : Int) := by rw [wrap_up (by omega) (by omega)]; rfl
    refine Ev.step (fun n => ?_) ih
    rw [api_Row_48.l0, if_pos (by omega), if_pos (by omega), if_pos (by omega), if_pos (by omega), hx, hw]
    simp
theorem key_one (b c d e : Int) : keyF 1 b c d e = boxF b c d e := by unfold keyF; simp
end Go.Proofs.Ytknlbfandkmeiaa.M
