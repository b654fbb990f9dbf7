/- KeyFair: the given statement, out of its plain statement and the walk of its code. No condition. -/
import Derived.SizedLaws
import Derived.Laws.BytesArg
import Derived.WalkKit
import Derived.StillTailTactics
import Derived.Deep.RegionHeld3
import Derived.Laws.Bits64b
import Derived.Test.YthlhmijgbjcloaaLKeyFairPureKeyFair
set_option linter.unusedVariables false
set_option linter.unusedSimpArgs false
namespace Go.Proofs.Ythlhmijgbjcloaa.A
open Go.ChangeShapes Go.WideShapes Go.ChangeAt Go.RowKit Go.Proofs.YthlhmijgbjcloaaW.PrintWords
set_option maxHeartbeats 1000000 in
theorem keyFair_walk (W : World) (args : Array Value) {H : Type} {enc : TypeId × Value → H} (ds : List (DataW H)) (p : List MemPlace) (base : Nat)
    (hval : ∀ (j : Nat) t v, Try.f10.params[j]? = some t → args[j]? = some v → Value.okWide Try.prog W .any base t v)
    (hA : DataW.TrodAll enc Try.prog W 0 (fun _ => true) true Try.f10.params.toList args.toList ds p) :
    Calls Try.prog 10 args W fun e W' => e = .returned (.bool true) ∧ Below W.heap.size W W' := by
  rw [Try.params10] at hA hval
  obtain ⟨v0, vs0, d0, ds0, p0, q0, hargs, rfl, rfl, h0, r0⟩ := trodAll_cons hA
  obtain ⟨rfl, rfl, rfl⟩ := trodAll_nil r0
  obtain rfl : args = #[v0] := by cases args; simp_all
  obtain ⟨x0, ⟨A0, c0, g0, e0, k0⟩, w0⟩ := op41.val h0
  obtain ⟨a0, len0, cap0, rfl⟩ := okWide_slice Try.underlying41 (hval 0 41 v0 rfl rfl)
  simp only [Value.cells, List.cons.injEq, Value.slice.injEq, and_true] at g0
  obtain ⟨rfl, rfl, rfl⟩ := g0
  obtain ⟨k, hk⟩ := KeyFair_pure x0 w0
  refine (gazetteerlaw09_KeyFair.calls k _ _ x0 true W k0 e0 hk).mono ?_
  rintro e w' ⟨rfl, hd⟩
  exact ⟨rfl, hd⟩
set_option maxRecDepth 100000 in
theorem keyFair_lifted (os : Os) (started : os.Started) (H : Type) (enc : TypeId × Value → H) :
    ReturnsInHanded {} Try.checked os 10 .any (Rows.keyFairSpec.pre6 enc Try.prog Try.f10 Rows.keyFairRow.domain false) (Rows.keyFairSpec.post enc Try.prog Try.f10 false true false false) :=
  law_lifted os started (by kernel_rfl) Try.func10 rfl (fun ds hd => match ds, hd with | [_], _ => rfl) (by kernel_rfl) (by kernel_rfl)
    (ChangeSpec.witness6 (enc := enc) (C := Try.checked) false ⟨#[], #[.slice none 0 0], []⟩ 8 (by kernel_rfl) (by kernel_rfl) (by kernel_rfl) (by kernel_rfl))
    (fun W args ds p base hval hA _ => keyFair_walk W args ds p base hval hA)
end Go.Proofs.Ythlhmijgbjcloaa.A
namespace Go.Proofs.Ythlhmijgbjcloaa
open Go.ChangeShapes Go.WideShapes Go.ChangeAt Go.RowKit
theorem KeyFair : Rows.KeyFairSaid := OpenClaim.holds_of_wide 10 Try.f10 rfl rfl rfl rfl rfl rfl rfl ⟨rfl, rfl, rfl, rfl, rfl⟩ rfl rfl rfl rfl rfl (by kernel_rfl) Try.func10 (by kernel_rfl) (of_decide_eq_true (by kernel_rfl)) (by unfold Func.isWrapper; first | (rw [if_pos (by decide +kernel)]; kernel_rfl) | (rw [if_neg (by decide +kernel)]; exact ⟨rfl, rfl⟩)) (fun os started H enc _ => A.keyFair_lifted os started H enc)
end Go.Proofs.Ythlhmijgbjcloaa
