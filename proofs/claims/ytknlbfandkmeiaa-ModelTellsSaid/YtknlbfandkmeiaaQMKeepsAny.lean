/- What the row of this claim reaches. No condition. -/
import Derived.Test.YtknlbfandkmeiaaQMKeeps
set_option linter.unusedVariables false
set_option linter.unusedSimpArgs false
namespace Go.Proofs.Ytknlbfandkmeiaa.M
open Go.RowKit Go.Proofs.YtknlbfandkmeiaaW.PrintWords Go.Proofs.YtknlbfandkmeiaaW.PrintLast Go.Proofs.YtknlbfandkmeiaaW.PrintMore
theorem mmeets_ev {L : List S51} (h : okT L) (k : S36) : Ev (fun n => model_Meets.f n L k.f0 k.f1 k.f2 k.f3) (if boxF k.f0 k.f1 k.f2 k.f3 = true then (L.filter (meetB k), 0) else ([], 314)) := by
  have hl := h.1
  have hc := check_ev (L := L) (by omega)
  rw [if_pos h] at hc
  refine Ev.bind (f := fun _ e => if e = 0 then (key_Check.f 1 k.f0 k.f1 k.f2 k.f3).bind fun e2 => if e2 = 0 then (if L.length ≤ 1000 then some (L.filter (meetB k), 0) else none) else some ([], 314) else some ([], 320)) hc ?_
  rw [check_f, key_one]
  simp only [if_true, Option.bind_some]
  cases boxF k.f0 k.f1 k.f2 k.f3
  · simp only [Bool.false_eq_true, if_false, show ¬ (2 : Int) = 0 by omega]
    exact Ev.now _
  · simp only [if_true]
    rw [if_pos (by omega)]
    exact Ev.now _
end Go.Proofs.Ytknlbfandkmeiaa.M
