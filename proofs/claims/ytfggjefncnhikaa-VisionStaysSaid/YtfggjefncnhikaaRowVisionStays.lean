/- VisionStays: the row of this law, out of its plain statement (VisionStays_Pure) and the walk of its code. No condition. -/
import Derived.Test.YtfggjefncnhikaaRowKit
import Derived.Test.YtfggjefncnhikaaOpen
import Derived.Test.YtfggjefncnhikaaAx10
import Derived.Test.YtfggjefncnhikaaAx17
import Derived.Test.YtfggjefncnhikaaPureVisionStays
import Derived.SizedLaws
namespace Go.Proofs.Ytfggjefncnhikaa.A
open Go.ChangeShapes Go.WideShapes Go.ChangeAt Go.RowKit Go.Proofs.YtfggjefncnhikaaW.PrintWords
set_option linter.unusedVariables false
set_option linter.unusedSimpArgs false
set_option maxHeartbeats 1000000 in
theorem visionStays_walk (W : World) (args : Array Value) {H : Type} {enc : TypeId × Value → H} (ds : List (DataW H)) (p : List MemPlace) (base : Nat)
    (hval : ∀ (j : Nat) t v, Try.f4.params[j]? = some t → args[j]? = some v → Value.okWide Try.prog W .any base t v)
    (hA : DataW.TrodAll enc Try.prog W 0 (fun _ => true) true Try.f4.params.toList args.toList ds p) :
    Calls Try.prog 4 args W fun e W' => e = .returned (.bool true) ∧ Below W.heap.size W W' := by
  rw [Try.params4] at hA hval
  obtain ⟨v0, vs0, d0, ds0, p0, q0, hargs, rfl, rfl, h0, r0⟩ := trodAll_cons hA
  obtain ⟨v1, vs1, d1, ds1, p1, q1, rfl, rfl, rfl, h1, r1⟩ := trodAll_cons r0
  obtain ⟨v2, vs2, d2, ds2, p2, q2, rfl, rfl, rfl, h2, r2⟩ := trodAll_cons r1
  obtain ⟨rfl, rfl, rfl⟩ := trodAll_nil r2
  obtain rfl : args = #[v0, v1, v2] := by cases args; simp_all
  obtain ⟨x0, cs0, rfl, o0, w0⟩ := op25.agg Try.underlying25 (hval 0 25 v0 rfl rfl) h0
  obtain ⟨A0_1, c0_1, g0, e0_1, k0_1⟩ := k25_open o0
  obtain rfl : cs0 = #[.int .u64 x0.f0, .slice A0_1 x0.f1.length c0_1] := by cases cs0; simp_all
  obtain ⟨x1, rfl, _, _, w1⟩ := open_int Try.underlying22 (hval 1 22 v1 rfl rfl) h1
  obtain ⟨x2, cs2, rfl, o2, w2⟩ := op32.agg Try.underlying32 (hval 2 32 v2 rfl rfl) h2
  obtain g2 := k32_open o2
  obtain rfl : cs2 = #[.int .u32 x2.f0, .int .u64 x2.f1, .int .u64 x2.f2, .int .i64 x2.f3.f0, .int .i64 x2.f3.f1, .int .i64 x2.f3.f2, .int .i64 x2.f3.f3, .int .i64 x2.f4] := by cases cs2; simp_all
  obtain ⟨k, hk⟩ := VisionStays_pure x0 x1 x2 w0 w1 w2
  refine (gazetteerlaw17_VisionStays.calls k x0.f0 _ _ x0.f1 x1 x2.f0 x2.f1 x2.f2 x2.f3.f0 x2.f3.f1 x2.f3.f2 x2.f3.f3 x2.f4 true W k0_1 e0_1 hk).mono ?_
  rintro e w' ⟨rfl, hd⟩
  exact ⟨rfl, hd⟩
set_option maxRecDepth 100000 in
theorem visionStays_lifted (os : Os) (started : os.Started) (H : Type) (enc : TypeId × Value → H) :
    ReturnsInHanded {} Try.checked os 4 .any (Rows.visionStaysSpec.pre6 enc Try.prog Try.f4 Rows.visionStaysRow.domain false) (Rows.visionStaysSpec.post enc Try.prog Try.f4 false true false false) :=
  law_lifted os started (by kernel_rfl) Try.func4 rfl (fun ds hd => match ds, hd with | [_, _, _], _ => rfl) (by kernel_rfl) (by kernel_rfl)
    (ChangeSpec.witness6 (enc := enc) (C := Try.checked) false ⟨#[], #[.agg #[.int .u64 0, .slice none 0 0], .int .u64 0, .agg #[.int .u32 0, .int .u64 0, .int .u64 0, .int .i64 0, .int .i64 0, .int .i64 0, .int .i64 0, .int .i64 0]], []⟩ 8 (by kernel_rfl) (by kernel_rfl) (by kernel_rfl) (by kernel_rfl))
    (fun W args ds p base hval hA _ => visionStays_walk W args ds p base hval hA)
end Go.Proofs.Ytfggjefncnhikaa.A
namespace Go.Proofs.Ytfggjefncnhikaa
open Go.ChangeShapes Go.WideShapes Go.ChangeAt Go.RowKit
theorem VisionStays : Rows.VisionStaysSaid := OpenClaim.holds_of_wide 4 Try.f4 rfl rfl rfl rfl rfl rfl rfl ⟨rfl, rfl, rfl, rfl, rfl⟩ rfl rfl rfl rfl rfl (by kernel_rfl) Try.func4 (by kernel_rfl) (of_decide_eq_true (by kernel_rfl)) (by unfold Func.isWrapper; first | (rw [if_pos (by decide +kernel)]; kernel_rfl) | (rw [if_neg (by decide +kernel)]; exact ⟨rfl, rfl⟩)) (fun os started H enc _ => A.visionStays_lifted os started H enc)
#print axioms VisionStays
end Go.Proofs.Ytfggjefncnhikaa
