/- WideTurns: for every two numbers of 128 bits the law answers true, and the numbers read as they did. No condition. -/
import Derived.Test.YthlhmijgbjcloaaTurns
import Derived.Test.YthlhmijgbjcloaaArgs
namespace Go.Proofs.Ythlhmijgbjcloaa
set_option linter.unusedVariables false
set_option linter.unusedSimpArgs false
open Go.ChangeShapes Go.WideShapes Go.ChangeAt Go.RowKit

set_option maxRecDepth 100000 in
theorem wideTurns_lifted (os : Os) (started : os.Started) (H : Type) (enc : TypeId × Value → H) :
    ReturnsInHanded {} Try.checked os 8 .any (Rows.wideTurnsSpec.pre6 enc Try.prog Try.f8 Rows.wideTurnsRow.domain false) (Rows.wideTurnsSpec.post enc Try.prog Try.f8 false true false false) :=
  law_lifted os started (by kernel_rfl) Try.func8 rfl (fun ds hd => match ds, hd with | [_, _], _ => rfl) (by kernel_rfl) (by kernel_rfl)
    (ChangeSpec.witness6 (enc := enc) (C := Try.checked) false ⟨#[], #[.agg #[.int .u64 0, .int .u64 0], .agg #[.int .u64 0, .int .u64 0]], []⟩ 8 (by kernel_rfl) (by kernel_rfl) (by kernel_rfl) (by kernel_rfl))
    (by
      intro W args ds p base hval hA hlt
      rw [Try.params8] at hA hval
      obtain ⟨v0, vs0, d0, ds0, p0, q0, hargs, rfl, rfl, h0, r0⟩ := trodAll_cons hA
      obtain ⟨v1, vs1, d1, ds1, p1, q1, rfl, rfl, rfl, h1, r1⟩ := trodAll_cons r0
      obtain ⟨rfl, rfl, rfl⟩ := trodAll_nil r1
      obtain rfl : args = #[v0, v1] := by cases args; simp_all
      obtain ⟨A, gA, rfl⟩ := open_wide (hval 0 25 v0 rfl rfl) h0
      obtain ⟨B, gB, rfl⟩ := open_wide (hval 1 25 v1 rfl rfl) h1
      exact turns_walk A B gA gB W)

theorem WideTurns : Rows.WideTurnsSaid := OpenClaim.holds_of_wide 8 Try.f8 rfl rfl rfl rfl rfl rfl rfl ⟨rfl, rfl, rfl, rfl, rfl⟩ rfl rfl rfl rfl rfl (by kernel_rfl) Try.func8 (by kernel_rfl) (of_decide_eq_true (by kernel_rfl)) (by unfold Func.isWrapper; first | (rw [if_pos (by decide +kernel)]; kernel_rfl) | (rw [if_neg (by decide +kernel)]; exact ⟨rfl, rfl⟩)) (fun os started H enc _ => wideTurns_lifted os started H enc)
#print axioms WideTurns
end Go.Proofs.Ythlhmijgbjcloaa
