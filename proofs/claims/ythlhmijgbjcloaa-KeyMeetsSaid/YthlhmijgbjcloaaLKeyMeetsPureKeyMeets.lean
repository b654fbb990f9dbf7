/- What the row of this claim reaches. No condition. -/
import Derived.Test.YthlhmijgbjcloaaCPure09w
import Derived.Test.YthlhmijgbjcloaaLKeyMeetsPure09w
import Derived.Test.YthlhmijgbjcloaaCX0
import Derived.Test.YthlhmijgbjcloaaCKp
import Derived.Test.YthlhmijgbjcloaaLKeyMeetsX0
set_option linter.unusedVariables false
set_option linter.unusedSimpArgs false
namespace Go.Proofs.Ythlhmijgbjcloaa.A
open Go.RowKit Go.Proofs.YthlhmijgbjcloaaW.PrintWords Go.Proofs.YthlhmijgbjcloaaW.PrintLast Go.Proofs.YthlhmijgbjcloaaW.PrintMore
set_option maxHeartbeats 2000000 in
theorem KeyMeets_pure : KeyMeets_Pure := by
  rintro ⟨a0, a1, a2, a3⟩ ⟨b0, b1, b2, b3⟩ ⟨c0, c1, c2, c3⟩ _ _ _
  refine ⟨40, ?_⟩
  unfold gazetteerlaw09_KeyMeets.f
  rw [wakes_ok]
  simp only [Option.bind_some, if_true, meets_eq, covers_eq, gazetteerlaw09_KeyMeets.j0]
  cases ha : boxB a0 a1 a2 a3 <;> cases hb : boxB b0 b1 b2 b3 <;> cases hc : boxB c0 c1 c2 c3 <;> simp only [boxB_t, boxB_f] at ha hb hc <;> simp only [Bool.true_and, Bool.false_and, bne_self_eq_false, Bool.false_eq_true, if_false]
  all_goals
    rw [if_neg (by simp only [bne_iff_ne, ne_eq, decide_eq_decide]; omega)]
    (repeat' split) <;> (simp only [Bool.not_eq_true', Bool.not_eq_true, Bool.not_false, decide_eq_true_eq, decide_eq_false_iff_not, Bool.and_eq_true, beq_iff_eq, Option.some.injEq, reduceCtorEq] at *) <;> omega
end Go.Proofs.Ythlhmijgbjcloaa.A
