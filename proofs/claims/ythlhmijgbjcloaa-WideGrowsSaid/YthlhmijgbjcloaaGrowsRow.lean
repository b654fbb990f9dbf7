/- WideGrows: for every two numbers of 64 bits and every box the law answers true, and its arguments read as they did. No condition. -/
import Derived.Test.YthlhmijgbjcloaaGrows
import Derived.Test.YthlhmijgbjcloaaArgs
namespace Go.Proofs.Ythlhmijgbjcloaa
set_option linter.unusedVariables false
set_option linter.unusedSimpArgs false
open Go.ChangeShapes Go.WideShapes Go.ChangeAt Go.RowKit

set_option maxRecDepth 100000 in
theorem wideGrows_lifted (os : Os) (started : os.Started) (H : Type) (enc : TypeId × Value → H) :
    ReturnsInHanded {} Try.checked os 9 .any (Rows.wideGrowsSpec.pre6 enc Try.prog Try.f9 Rows.wideGrowsRow.domain false) (Rows.wideGrowsSpec.post enc Try.prog Try.f9 false true false false) :=
  law_lifted os started (by kernel_rfl) Try.func9 rfl (fun ds hd => match ds, hd with | [_, _, _], _ => rfl) (by kernel_rfl) (by kernel_rfl)
    (ChangeSpec.witness6 (enc := enc) (C := Try.checked) false ⟨#[], #[.int .u64 0, .int .u64 0, .agg #[.int .i64 0, .int .i64 0, .int .i64 0, .int .i64 0]], []⟩ 8 (by kernel_rfl) (by kernel_rfl) (by kernel_rfl) (by kernel_rfl))
    (by
      intro W args ds p base hval hA hlt
      rw [Try.params9] at hA hval
      obtain ⟨v0, vs0, d0, ds0, p0, q0, hargs, rfl, rfl, h0, r0⟩ := trodAll_cons hA
      obtain ⟨v1, vs1, d1, ds1, p1, q1, rfl, rfl, rfl, h1, r1⟩ := trodAll_cons r0
      obtain ⟨v2, vs2, d2, ds2, p2, q2, rfl, rfl, rfl, h2, r2⟩ := trodAll_cons r1
      obtain ⟨rfl, rfl, rfl⟩ := trodAll_nil r2
      obtain rfl : args = #[v0, v1, v2] := by cases args; simp_all
      obtain ⟨a, ga, rfl⟩ := open_u64 (hval 0 22 v0 rfl rfl) h0
      obtain ⟨b, gb, rfl⟩ := open_u64 (hval 1 22 v1 rfl rfl) h1
      obtain ⟨x0, x1, y0, y1, g0, g1, g2, g3, rfl⟩ := open_key (hval 2 35 v2 rfl rfl) h2
      exact grows_walk a b x0 x1 y0 y1 ga gb g0 g1 g2 g3 W)

theorem WideGrows : Rows.WideGrowsSaid := OpenClaim.holds_of_wide 9 Try.f9 rfl rfl rfl rfl rfl rfl rfl ⟨rfl, rfl, rfl, rfl, rfl⟩ rfl rfl rfl rfl rfl (by kernel_rfl) Try.func9 (by kernel_rfl) (of_decide_eq_true (by kernel_rfl)) (by unfold Func.isWrapper; first | (rw [if_pos (by decide +kernel)]; kernel_rfl) | (rw [if_neg (by decide +kernel)]; exact ⟨rfl, rfl⟩)) (fun os started H enc _ => wideGrows_lifted os started H enc)
#print axioms WideGrows
end Go.Proofs.Ythlhmijgbjcloaa
