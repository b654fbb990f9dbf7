/- A law's arguments opened: numbers of 64 and 128 bits, boxes. -/
import Derived.Test.YthlhmijgbjcloaaRowKit
import Derived.Test.YthlhmijgbjcloaaWideMath
namespace Go.Proofs.Ythlhmijgbjcloaa
set_option linter.unusedVariables false
set_option linter.unusedSimpArgs false
open Go.ChangeShapes Go.WideShapes Go.ChangeAt Go.RowKit Go.Joins
section
variable {H : Type} {enc : TypeId × Value → H} {W : World} {base b0 : Nat} {spare : Nat → Bool} {held : Bool} {v : Value} {d : DataW H} {p : List MemPlace}
theorem cells_wide : Try.prog.cellsOf 25 = 2 := by kernel_rfl
theorem cells_key : Try.prog.cellsOf 35 = 4 := by kernel_rfl
theorem open_u64 (hv : Value.okWide Try.prog W .any b0 22 v) (h : DataW.Trod enc Try.prog W base spare held 22 v d p) : ∃ a, isU a ∧ v = .int .u64 a := by
  obtain ⟨a, rfl, _, _, hw⟩ := open_int Try.underlying22 hv h
  have := bounds_u64 hw
  exact ⟨a, by unfold isU; omega, rfl⟩
theorem open_i64 (hv : Value.okWide Try.prog W .any b0 2 v) (h : DataW.Trod enc Try.prog W base spare held 2 v d p) : ∃ a, isI a ∧ v = .int .i64 a := by
  obtain ⟨a, rfl, _, _, hw⟩ := open_int Try.underlying2 hv h
  exact ⟨a, bounds_i64 hw, rfl⟩
theorem open_wide (hv : Value.okWide Try.prog W .any b0 25 v) (h : DataW.Trod enc Try.prog W base spare held 25 v d p) : ∃ n, in128 n ∧ v = .agg #[.int .u64 (hi64 n), .int .u64 (lo64 n)] := by
  obtain ⟨c0, c1, y0, y1, m, rfl, _, _, h0, h1⟩ := open_agg2 Try.underlying25 (by kernel_rfl) cells_wide hv h
  obtain ⟨a, e0, _, w0⟩ := DataW.trod_int Try.underlying22 h0
  obtain ⟨b, e1, _, w1⟩ := DataW.trod_int Try.underlying22 h1
  simp only [List.cons.injEq, and_true] at e0 e1
  subst e0; subst e1
  have := bounds_u64 w0
  have := bounds_u64 w1
  obtain ⟨n, hn, rfl, rfl⟩ := hl_of (ah := a) (al := b) (by unfold isU; omega) (by unfold isU; omega)
  exact ⟨n, hn, rfl⟩
theorem open_key (hv : Value.okWide Try.prog W .any b0 35 v) (h : DataW.Trod enc Try.prog W base spare held 35 v d p) :
    ∃ x0 x1 y0 y1, isI x0 ∧ isI x1 ∧ isI y0 ∧ isI y1 ∧ v = .agg #[.int .i64 x0, .int .i64 x1, .int .i64 y0, .int .i64 y1] := by
  obtain ⟨c0, c1, c2, c3, z0, z1, z2, z3, m, rfl, _, _, h0, h1, h2, h3⟩ := open_agg4 Try.underlying35 (by kernel_rfl) cells_key hv h
  obtain ⟨a, e0, _, w0⟩ := DataW.trod_int Try.underlying2 h0
  obtain ⟨b, e1, _, w1⟩ := DataW.trod_int Try.underlying2 h1
  obtain ⟨c, e2, _, w2⟩ := DataW.trod_int Try.underlying2 h2
  obtain ⟨e, e3, _, w3⟩ := DataW.trod_int Try.underlying2 h3
  simp only [List.cons.injEq, and_true] at e0 e1 e2 e3
  subst e0; subst e1; subst e2; subst e3
  exact ⟨a, b, c, e, bounds_i64 w0, bounds_i64 w1, bounds_i64 w2, bounds_i64 w3, rfl⟩
end
end Go.Proofs.Ythlhmijgbjcloaa
