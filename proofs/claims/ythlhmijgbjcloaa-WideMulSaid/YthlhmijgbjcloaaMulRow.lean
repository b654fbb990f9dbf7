/- WideMul: for every two numbers of 64 bits the program's product is the document's: the law answers true. No condition. -/
import Derived.Test.YthlhmijgbjcloaaRefMul
import Derived.Test.YthlhmijgbjcloaaWakes07
import Derived.Test.YthlhmijgbjcloaaEq
import Derived.Test.YthlhmijgbjcloaaArgs
import Derived.Test.YthlhmijgbjcloaaRowKit
namespace Go.Proofs.Ythlhmijgbjcloaa
set_option linter.unusedVariables false
set_option linter.unusedSimpArgs false
open Go.ChangeShapes Go.WideShapes Go.ChangeAt Go.RowKit

set_option maxHeartbeats 1000000 in
theorem mul_walk (a b : Int) (ha : isU a) (hb : isU b) (w : World) :
    Calls Try.prog 3 #[.int .u64 a, .int .u64 b] w fun e w' => e = .returned (.bool true) ∧ Below w.heap.size w w' := by
  obtain ⟨x, rfl⟩ := Int.eq_ofNat_of_zero_le ha.1
  obtain ⟨y, rfl⟩ := Int.eq_ofNat_of_zero_le hb.1
  obtain ⟨M, hM⟩ : ∃ M : Int, (x : Int) * y = M := ⟨_, rfl⟩
  have hm1 : ∀ W, Hid (Calls Try.prog 16 #[.int .u64 (x : Int), .int .u64 (y : Int)] W fun e w' => e = .returned (wd M) ∧ Below W.heap.size W w') := fun W => by
    have := mul_any (x : Int) (y : Int) W ha hb
    rw [hM] at this
    exact this
  have hm2 : ∀ W, Hid (Calls Try.prog 17 #[.int .u64 (x : Int), .int .u64 (y : Int)] W fun e w' => e = .returned (wd M) ∧ Below W.heap.size W w') := fun W => by
    have := refmul_n x y (by have := ha.2; omega) (by have := hb.2; omega) W
    rw [Int.natCast_mul, hM] at this
    exact this
  have heq : ∀ (Z : Int) W, (binOp .eql 25 (wd Z) (wd Z)).run Try.prog W = .ok (.bool true) W := fun Z W => by rw [eql25]; simp
  clear hM ha hb
  go_enter Try.func3, Try.ntmps3
  go_wp2_with (first
    | (go_at_call 15; (with_reducible refine (wakes07_any _).mono ?_); rintro e w1 ⟨rfl, hb1⟩)
    | (go_at_call 16; (with_reducible refine (hm1 _).out.mono ?_); rintro e w2 ⟨rfl, hb2⟩)
    | (go_at_call 17; (with_reducible refine (hm2 _).out.mono ?_); rintro e w3 ⟨rfl, hb3⟩))
  go_ret
  exact ⟨rfl, hb1.trans ((hb2.trans (hb3.mono hb2.size)).mono hb1.size)⟩

set_option maxRecDepth 100000 in
theorem wideMul_lifted (os : Os) (started : os.Started) (H : Type) (enc : TypeId × Value → H) :
    ReturnsInHanded {} Try.checked os 3 .any (Rows.wideMulSpec.pre6 enc Try.prog Try.f3 Rows.wideMulRow.domain false) (Rows.wideMulSpec.post enc Try.prog Try.f3 false true false false) :=
  law_lifted os started (by kernel_rfl) Try.func3 rfl (fun ds hd => match ds, hd with | [_, _], _ => rfl) (by kernel_rfl) (by kernel_rfl)
    (ChangeSpec.witness6 (enc := enc) (C := Try.checked) false ⟨#[], #[.int .u64 0, .int .u64 0], []⟩ 8 (by kernel_rfl) (by kernel_rfl) (by kernel_rfl) (by kernel_rfl))
    (by
      intro W args ds p base hval hA hlt
      rw [Try.params3] at hA hval
      obtain ⟨v0, vs0, d0, ds0, p0, q0, hargs, rfl, rfl, h0, r0⟩ := trodAll_cons hA
      obtain ⟨v1, vs1, d1, ds1, p1, q1, rfl, rfl, rfl, h1, r1⟩ := trodAll_cons r0
      obtain ⟨rfl, rfl, rfl⟩ := trodAll_nil r1
      obtain rfl : args = #[v0, v1] := by cases args; simp_all
      obtain ⟨a, ga, rfl⟩ := open_u64 (hval 0 22 v0 rfl rfl) h0
      obtain ⟨b, gb, rfl⟩ := open_u64 (hval 1 22 v1 rfl rfl) h1
      exact mul_walk a b ga gb W)

theorem WideMul : Rows.WideMulSaid := OpenClaim.holds_of_wide 3 Try.f3 rfl rfl rfl rfl rfl rfl rfl ⟨rfl, rfl, rfl, rfl, rfl⟩ rfl rfl rfl rfl rfl (by kernel_rfl) Try.func3 (by kernel_rfl) (of_decide_eq_true (by kernel_rfl)) (by unfold Func.isWrapper; first | (rw [if_pos (by decide +kernel)]; kernel_rfl) | (rw [if_neg (by decide +kernel)]; exact ⟨rfl, rfl⟩)) (fun os started H enc _ => wideMul_lifted os started H enc)
#print axioms WideMul
end Go.Proofs.Ythlhmijgbjcloaa
