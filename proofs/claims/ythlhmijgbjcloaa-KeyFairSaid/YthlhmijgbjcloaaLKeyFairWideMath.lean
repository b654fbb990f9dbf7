/- What the row of this claim reaches. No condition. -/
import Derived.Laws.BitsAllLaws
import Derived.Laws.BitsLemmas
import Derived.WalkKit
import Derived.Test.YthlhmijgbjcloaaCWideMath
set_option linter.unusedVariables false
set_option linter.unusedSimpArgs false
namespace Go.Proofs.Ythlhmijgbjcloaa
open Go.RowKit
theorem m128_in (n : Int) : in128 (m128 n) := by unfold in128 m128; omega
theorem mul_in {a b : Int} (ha : isU a) (hb : isU b) : in128 (a * b) := by
  unfold isU at ha hb
  refine ⟨Int.mul_nonneg ha.1 hb.1, ?_⟩
  have : a * b ≤ 18446744073709551615 * 18446744073709551615 := Int.mul_le_mul (by omega) (by omega) hb.1 (by omega)
  omega
end Go.Proofs.Ythlhmijgbjcloaa
