/- VisionGone: the row of this law. No condition. -/
import Derived.Test.YtfggjefncnhikaaVGone
import Derived.Test.YtfggjefncnhikaaRowKit
import Derived.Test.YtfggjefncnhikaaOpen
import Derived.Test.YtfggjefncnhikaaAx15
import Derived.OpenShut
namespace Go.Proofs.Ytfggjefncnhikaa.A
set_option linter.unusedVariables false
set_option linter.unusedSimpArgs false
open Go.ChangeShapes Go.WideShapes Go.ChangeAt Go.RowKit Go.Proofs.YtfggjefncnhikaaW.PrintWords
theorem cells_two : Try.prog.cellsOf 49 = 2 := by kernel_rfl
theorem cells_u64 : Try.prog.cellsOf 22 = 1 := by kernel_rfl
section
variable {H : Type} {enc : TypeId × Value → H} {W : World} {base b0 : Nat} {spare : Nat → Bool} {held : Bool} {v : Value} {D : DataW H} {p : List MemPlace}
theorem open_two (hv : Value.okWide Try.prog W .any b0 49 v) (h : DataW.Trod enc Try.prog W base spare held 49 v D p) : ∃ a b, v = .agg #[.int .u64 a, .int .u64 b] := by
  unfold Value.okWide at hv
  rw [Try.underlying49] at hv
  obtain ⟨cs, rfl, hs, _⟩ := hv
  obtain ⟨fuel, hf⟩ := h
  obtain ⟨xs, n, _, _, hl, hxl, hg⟩ := DataW.trod_array Try.underlying49 hf
  rw [cells_two] at hl
  rw [cells_u64] at hg
  obtain ⟨v0, v1, e2⟩ : ∃ v0 v1, cs = #[v0, v1] := by
    match cs, hl with
    | ⟨[v0, v1]⟩, _ => exact ⟨v0, v1, rfl⟩
  subst e2
  have g0 := hg 0 (by omega)
  have g1 := hg 1 (by omega)
  rw [List.getElem?_eq_getElem (by omega)] at g0 g1
  obtain ⟨a, ea, _, _⟩ := DataW.trod_int Try.underlying22 g0
  obtain ⟨b, eb, _, _⟩ := DataW.trod_int Try.underlying22 g1
  simp [Value.cells] at ea eb
  exact ⟨a, b, by rw [ea, eb]⟩
end
set_option maxRecDepth 100000 in
theorem visionGone_lifted (os : Os) (started : os.Started) (H : Type) (enc : TypeId × Value → H) :
    ReturnsInHanded {} Try.checked os 7 .any (Rows.visionGoneSpec.pre6 enc Try.prog Try.f7 Rows.visionGoneRow.domain false) (Rows.visionGoneSpec.post enc Try.prog Try.f7 false true false false) :=
  law_lifted os started (by kernel_rfl) Try.func7 rfl (fun ds hd => match ds, hd with | [_, _, _], _ => rfl) (by kernel_rfl) (by kernel_rfl)
    (ChangeSpec.witness6 (enc := enc) (C := Try.checked) false ⟨#[], #[.agg #[.int .u64 0, .slice none 0 0], .agg #[.int .u64 0, .int .u64 0], .agg #[.int .u32 0, .int .u64 0, .int .u64 0, .int .i64 0, .int .i64 0, .int .i64 0, .int .i64 0, .int .i64 0]], []⟩ 8 (by kernel_rfl) (by kernel_rfl) (by kernel_rfl) (by kernel_rfl))
    (by
      intro W args ds p base hval hA hlt
      rw [Try.params7] at hA hval
      obtain ⟨v0, vs0, d0, ds0, p0, q0, hargs, rfl, rfl, h0, r0⟩ := trodAll_cons hA
      obtain ⟨v1, vs1, d1, ds1, p1, q1, rfl, rfl, rfl, h1, r1⟩ := trodAll_cons r0
      obtain ⟨v2, vs2, d2, ds2, p2, q2, rfl, rfl, rfl, h2, r2⟩ := trodAll_cons r1
      obtain ⟨rfl, rfl, rfl⟩ := trodAll_nil r2
      obtain rfl : args = #[v0, v1, v2] := by cases args; simp_all
      obtain ⟨x0, cs0, rfl, o0, w0⟩ := op25.agg Try.underlying25 (hval 0 25 v0 rfl rfl) h0
      obtain ⟨A0_1, c0_1, g0, e0_1, k0_1⟩ := k25_open o0
      obtain rfl : cs0 = #[.int .u64 x0.f0, .slice A0_1 x0.f1.length c0_1] := by cases cs0; simp_all
      obtain ⟨y0, y1, rfl⟩ := open_two (hval 1 49 v1 rfl rfl) h1
      obtain ⟨x2, cs2, rfl, o2, w2⟩ := op32.agg Try.underlying32 (hval 2 32 v2 rfl rfl) h2
      obtain g2 := k32_open o2
      obtain rfl : cs2 = #[.int .u32 x2.f0, .int .u64 x2.f1, .int .u64 x2.f2, .int .i64 x2.f3.f0, .int .i64 x2.f3.f1, .int .i64 x2.f3.f2, .int .i64 x2.f3.f3, .int .i64 x2.f4] := by cases cs2; simp_all
      exact gone_any _ _ _ _ _ _ _ _ _ _ _ _ _ _ W k0_1 e0_1 w0.2.2 (bounds_u32 w2.1).1 (u64_bounds w2.2.1).1)
end Go.Proofs.Ytfggjefncnhikaa.A
namespace Go.Proofs.Ytfggjefncnhikaa
open Go.ChangeShapes Go.WideShapes Go.ChangeAt Go.RowKit Go.Proofs.Ytfggjefncnhikaa.A
theorem VisionGone : Rows.VisionGoneSaid := OpenClaim.holds_of_wide 7 Try.f7 rfl rfl rfl rfl rfl rfl rfl ⟨rfl, rfl, rfl, rfl, rfl⟩ rfl rfl rfl rfl rfl (by kernel_rfl) Try.func7 (by kernel_rfl) (of_decide_eq_true (by kernel_rfl)) (by unfold Func.isWrapper; first | (rw [if_pos (by decide +kernel)]; kernel_rfl) | (rw [if_neg (by decide +kernel)]; exact ⟨rfl, rfl⟩)) (fun os started H enc _ => visionGone_lifted os started H enc)
#print axioms VisionGone
end Go.Proofs.Ytfggjefncnhikaa
