/- ModelTells: the given statement, out of its plain statement and the walk of its code. No condition. -/
import Derived.SizedLaws
import Derived.Test.YtknlbfandkmeiaaQPureModelTells
set_option linter.unusedVariables false
set_option linter.unusedSimpArgs false
namespace Go.Proofs.Ytknlbfandkmeiaa.M
open Go.ChangeShapes Go.WideShapes Go.ChangeAt Go.RowKit Go.Proofs.YtknlbfandkmeiaaW.PrintWords
set_option maxHeartbeats 1000000 in
set_option maxRecDepth 100000 in
theorem modelTells_walk (W : World) (args : Array Value) {H : Type} {enc : TypeId × Value → H} (ds : List (DataW H)) (p : List MemPlace) (base : Nat)
    (hval : ∀ (j : Nat) t v, Try.f6.params[j]? = some t → args[j]? = some v → Value.okWide Try.prog W .any base t v)
    (hA : DataW.TrodAll enc Try.prog W 0 (fun _ => true) true Try.f6.params.toList args.toList ds p) :
    Calls Try.prog 6 args W fun e W' => e = .returned (.bool true) ∧ Below W.heap.size W W' := by
  rw [Try.params6] at hA hval
  obtain ⟨v0, vs0, d0, ds0, p0, q0, hargs, rfl, rfl, h0, r0⟩ := trodAll_cons hA
  obtain ⟨v1, vs1, d1, ds1, p1, q1, rfl, rfl, rfl, h1, r1⟩ := trodAll_cons r0
  obtain ⟨v2, vs2, d2, ds2, p2, q2, rfl, rfl, rfl, h2, r2⟩ := trodAll_cons r1
  obtain ⟨rfl, rfl, rfl⟩ := trodAll_nil r2
  obtain rfl : args = #[v0, v1, v2] := by cases args; simp_all
  obtain ⟨x0, ⟨A0, c0, g0, e0, k0⟩, w0⟩ := op53.val h0
  obtain ⟨a0, len0, cap0, rfl⟩ := okWide_slice Try.underlying53 (hval 0 53 v0 rfl rfl)
  simp only [Value.cells, List.cons.injEq, Value.slice.injEq, and_true] at g0
  obtain ⟨rfl, rfl, rfl⟩ := g0
  obtain ⟨x1, cs1, rfl, o1, w1⟩ := op36.agg Try.underlying36 (hval 1 36 v1 rfl rfl) h1
  obtain g1 := k36_open o1
  obtain rfl : cs1 = #[.int .i64 x1.f0, .int .i64 x1.f1, .int .i64 x1.f2, .int .i64 x1.f3] := by cases cs1; simp_all
  obtain ⟨x2, ⟨A2, c2, g2, e2, k2⟩, w2⟩ := op28.val h2
  obtain ⟨a2, len2, cap2, rfl⟩ := okWide_slice Try.underlying28 (hval 2 28 v2 rfl rfl)
  simp only [Value.cells, List.cons.injEq, Value.slice.injEq, and_true] at g2
  obtain ⟨rfl, rfl, rfl⟩ := g2
  have hk := ModelTells_pure x0 x1 x2 w0 w1 w2
  refine (gazetteerlaw22_ModelTells.calls _ _ x0 x1.f0 x1.f1 x1.f2 x1.f3 _ _ x2 true W k0 e0 k2 e2 hk).mono ?_
  rintro e w' ⟨rfl, hd⟩
  exact ⟨rfl, hd⟩
set_option maxRecDepth 100000 in
theorem modelTells_lifted (os : Os) (started : os.Started) (H : Type) (enc : TypeId × Value → H) :
    ReturnsInHanded {} Try.checked os 6 .any (Rows.modelTellsSpec.pre6 enc Try.prog Try.f6 Rows.modelTellsRow.domain false) (Rows.modelTellsSpec.post enc Try.prog Try.f6 false true false false) :=
  law_lifted os started (by kernel_rfl) Try.func6 rfl (fun ds hd => match ds, hd with | [_, _, _], _ => rfl) (by kernel_rfl) (by kernel_rfl)
    (ChangeSpec.witness6 (enc := enc) (C := Try.checked) false ⟨#[], #[.slice none 0 0, .agg #[.int .i64 0, .int .i64 0, .int .i64 0, .int .i64 0], .slice none 0 0], []⟩ 8 (by kernel_rfl) (by kernel_rfl) (by kernel_rfl) (by kernel_rfl))
    (fun W args ds p base hval hA _ => modelTells_walk W args ds p base hval hA)
end Go.Proofs.Ytknlbfandkmeiaa.M
namespace Go.Proofs.Ytknlbfandkmeiaa
open Go.ChangeShapes Go.WideShapes Go.ChangeAt Go.RowKit
theorem ModelTells : Rows.ModelTellsSaid := OpenClaim.holds_of_wide 6 Try.f6 rfl rfl rfl rfl rfl rfl rfl ⟨rfl, rfl, rfl, rfl, rfl⟩ rfl rfl rfl rfl rfl (by kernel_rfl) Try.func6 (by kernel_rfl) (of_decide_eq_true (by kernel_rfl)) (by unfold Func.isWrapper; first | (rw [if_pos (by decide +kernel)]; kernel_rfl) | (rw [if_neg (by decide +kernel)]; exact ⟨rfl, rfl⟩)) (fun os started H enc _ => M.modelTells_lifted os started H enc)
end Go.Proofs.Ytknlbfandkmeiaa
