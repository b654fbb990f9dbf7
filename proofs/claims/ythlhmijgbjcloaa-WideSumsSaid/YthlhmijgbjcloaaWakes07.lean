/- The walk of gazetteerlaw07.wakes: it answers true. -/
import Derived.Test.YthlhmijgbjcloaaWide
import Derived.Test.YthlhmijgbjcloaaText
namespace Go.Proofs.Ythlhmijgbjcloaa
set_option linter.unusedVariables false
set_option linter.unusedSimpArgs false
open Go.RowKit

set_option maxHeartbeats 1000000 in
set_option maxRecDepth 100000 in
theorem wakes07_any (w : World) : Calls Try.prog 15 #[] w fun e w' => e = .returned (.bool true) ∧ Below w.heap.size w w' := by
  have hM : ∀ W, Hid (Calls Try.prog 16 #[.int .u64 18446744073709551615, .int .u64 18446744073709551615] W fun e w' => e = .returned (.agg #[.int .u64 18446744073709551614, .int .u64 1]) ∧ Below W.heap.size W w') := fun W =>
    (mul_any _ _ W (by unfold isU; omega) (by unfold isU; omega)).mono fun e w' ⟨he, hb⟩ => ⟨by rw [he]; rfl, hb⟩
  have hT : ∀ W, Hid (Calls Try.prog 18 #[.agg #[.int .u64 1, .int .u64 0]] W fun e w' => e = .returned (.string { data := #[49, 56, 52, 52, 54, 55, 52, 52, 48, 55, 51, 55, 48, 57, 53, 53, 49, 54, 49, 54] }) ∧ Below W.heap.size W w') := fun W =>
    (text_any 1 0 18446744073709551616 ⟨by omega, by omega, by omega⟩ W).mono fun e w' ⟨he, hb⟩ => ⟨by rw [he, decS_two64], hb⟩
  go_enter Try.func15, Try.ntmps15
  go_wp2_with (first
    | (go_at_call 16; (with_reducible refine (hM _).out.mono ?_); rintro e w1 ⟨rfl, hb1⟩)
    | (go_at_call 18; (with_reducible refine (hT _).out.mono ?_); rintro e w2 ⟨rfl, hb2⟩))
  go_ret
  exact ⟨rfl, hb1.trans (hb2.mono hb1.size)⟩
end Go.Proofs.Ythlhmijgbjcloaa
