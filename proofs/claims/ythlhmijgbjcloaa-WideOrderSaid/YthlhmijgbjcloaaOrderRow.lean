/- WideOrder: for every three numbers of 128 bits the law answers true, and the numbers read as they did. No condition. -/
import Derived.Test.YthlhmijgbjcloaaOrder
import Derived.Test.YthlhmijgbjcloaaArgs
namespace Go.Proofs.Ythlhmijgbjcloaa
set_option linter.unusedVariables false
set_option linter.unusedSimpArgs false
open Go.ChangeShapes Go.WideShapes Go.ChangeAt Go.RowKit

set_option maxRecDepth 100000 in
theorem wideOrder_lifted (os : Os) (started : os.Started) (H : Type) (enc : TypeId × Value → H) :
    ReturnsInHanded {} Try.checked os 5 .any (Rows.wideOrderSpec.pre6 enc Try.prog Try.f5 Rows.wideOrderRow.domain false) (Rows.wideOrderSpec.post enc Try.prog Try.f5 false true false false) :=
  law_lifted os started (by kernel_rfl) Try.func5 rfl (fun ds hd => match ds, hd with | [_, _, _], _ => rfl) (by kernel_rfl) (by kernel_rfl)
    (ChangeSpec.witness6 (enc := enc) (C := Try.checked) false ⟨#[], #[.agg #[.int .u64 0, .int .u64 0], .agg #[.int .u64 0, .int .u64 0], .agg #[.int .u64 0, .int .u64 0]], []⟩ 8 (by kernel_rfl) (by kernel_rfl) (by kernel_rfl) (by kernel_rfl))
    (by
      intro W args ds p base hval hA hlt
      rw [Try.params5] at hA hval
      obtain ⟨v0, vs0, d0, ds0, p0, q0, hargs, rfl, rfl, h0, r0⟩ := trodAll_cons hA
      obtain ⟨v1, vs1, d1, ds1, p1, q1, rfl, rfl, rfl, h1, r1⟩ := trodAll_cons r0
      obtain ⟨v2, vs2, d2, ds2, p2, q2, rfl, rfl, rfl, h2, r2⟩ := trodAll_cons r1
      obtain ⟨rfl, rfl, rfl⟩ := trodAll_nil r2
      obtain rfl : args = #[v0, v1, v2] := by cases args; simp_all
      obtain ⟨A, gA, rfl⟩ := open_wide (hval 0 25 v0 rfl rfl) h0
      obtain ⟨B, gB, rfl⟩ := open_wide (hval 1 25 v1 rfl rfl) h1
      obtain ⟨C, gC, rfl⟩ := open_wide (hval 2 25 v2 rfl rfl) h2
      exact order_walk A B C gA gB gC W)

theorem WideOrder : Rows.WideOrderSaid := OpenClaim.holds_of_wide 5 Try.f5 rfl rfl rfl rfl rfl rfl rfl ⟨rfl, rfl, rfl, rfl, rfl⟩ rfl rfl rfl rfl rfl (by kernel_rfl) Try.func5 (by kernel_rfl) (of_decide_eq_true (by kernel_rfl)) (by unfold Func.isWrapper; first | (rw [if_pos (by decide +kernel)]; kernel_rfl) | (rw [if_neg (by decide +kernel)]; exact ⟨rfl, rfl⟩)) (fun os started H enc _ => wideOrder_lifted os started H enc)
#print axioms WideOrder
end Go.Proofs.Ythlhmijgbjcloaa
