/- WideTexts: for every number of 128 bits the program's digits are the document's: the law answers true. No condition. -/
import Derived.Test.YthlhmijgbjcloaaRefText
import Derived.Test.YthlhmijgbjcloaaWakes07
import Derived.Test.YthlhmijgbjcloaaArgs
import Derived.Test.YthlhmijgbjcloaaRowKit
import Derived.Deep.RegionHeld3
namespace Go.Proofs.Ythlhmijgbjcloaa
set_option linter.unusedVariables false
set_option linter.unusedSimpArgs false
open Go.ChangeShapes Go.WideShapes Go.ChangeAt Go.RowKit

set_option maxHeartbeats 2000000 in
theorem texts_walk (A : Int) (hA : in128 A) (w : World) :
    Calls Try.prog 4 #[wd A] w fun e w' => e = .returned (.bool true) ∧ Below w.heap.size w w' := by
  obtain ⟨n, rfl⟩ := Int.eq_ofNat_of_zero_le hA.1
  have hn : n < 2 ^ 128 := by have := hA.2; omega
  obtain ⟨s, hs⟩ : ∃ s, decS n = s := ⟨_, rfl⟩
  have ht1 : ∀ W, Hid (Calls Try.prog 18 #[wd n] W fun e w' => e = .returned (.string s) ∧ Below W.heap.size W w') := fun W => by
    have := text_any (n / 2 ^ 64) (n % 2 ^ 64) n ⟨by omega, by omega, by omega⟩ W
    rw [hs] at this
    exact this
  have ht2 : ∀ W, Hid (Calls Try.prog 19 #[wd n] W fun e w' => e = .returned (.string s) ∧ Below W.heap.size W w') := fun W => by
    have := reftext_n n hn W
    rw [hs] at this
    exact this
  clear hs hn hA
  go_enter Try.func4, Try.ntmps4
  go_wp2_with (go_at_call 15; (with_reducible refine (wakes07_any _).mono ?_); rintro e w1 ⟨rfl, hb1⟩; have c0 : w1.cell? ⟨w.heap.size, 0, none⟩ = some (.int .u64 (hi64 (n : Int))) := keep_cell hb1 (World.cell?_alloc_new _ _ _ _); have c1 : w1.cell? ⟨w.heap.size, 1, none⟩ = some (.int .u64 (lo64 (n : Int))) := keep_cell hb1 (World.cell?_alloc_new _ _ _ _); have hB : Below w.heap.size w w1 := Below.step (by (repeat (first | exact Below.refl _ _ | refine Below.drew ?_ | refine below_drewN' ?_ | refine Below.alloc ?_ (by simp; try omega) _ | refine Below.setCell ?_ (by simp; try omega) _))) hb1 (by simp))
  go_region_held3 (fun w' => w'.cell? ⟨w.heap.size, 0, none⟩ = some (.int .u64 (hi64 (n : Int))) ∧ w'.cell? ⟨w.heap.size, 1, none⟩ = some (.int .u64 (lo64 (n : Int))) ∧ Below w.heap.size w w') ((first | (go_split_ands; (repeat' apply And.intro) <;> (first | assumption | exact keep_cell hb2 (by assumption) | exact keep_below (by assumption) hb2 | exact Below.drew (by assumption) | exact keep_alloc _ (by assumption) | exact keep_below_alloc _ (by assumption) | (go_simp; done))) | (go_simp; done) | (simp [go_sem, *]; done)))
    (first
      | (refine goes Try.func18 (by kernel_rfl) rfl #[wd n] (by rfl) rfl rfl ?_ ?_; ((try simp only [List.map_toArray, List.map_cons, List.map_nil]); rfl); (with_reducible refine ((ht1 _).out).mono ?_); rintro e w2 ⟨rfl, hb2⟩; refine ⟨_, rfl, ?_⟩)
      | (refine goes Try.func19 (by kernel_rfl) rfl #[wd n] (by rfl) rfl rfl ?_ ?_; ((try simp only [List.map_toArray, List.map_cons, List.map_nil]); rfl); (with_reducible refine ((ht2 _).out).mono ?_); rintro e w2 ⟨rfl, hb2⟩; refine ⟨_, rfl, ?_⟩))
  go_split_ands
  go_wp2
  go_ret
  exact ⟨rfl, by assumption⟩

set_option maxRecDepth 100000 in
theorem wideTexts_lifted (os : Os) (started : os.Started) (H : Type) (enc : TypeId × Value → H) :
    ReturnsInHanded {} Try.checked os 4 .any (Rows.wideTextsSpec.pre6 enc Try.prog Try.f4 Rows.wideTextsRow.domain false) (Rows.wideTextsSpec.post enc Try.prog Try.f4 false true false false) :=
  law_lifted os started (by kernel_rfl) Try.func4 rfl (fun ds hd => match ds, hd with | [_], _ => rfl) (by kernel_rfl) (by kernel_rfl)
    (ChangeSpec.witness6 (enc := enc) (C := Try.checked) false ⟨#[], #[.agg #[.int .u64 0, .int .u64 0]], []⟩ 8 (by kernel_rfl) (by kernel_rfl) (by kernel_rfl) (by kernel_rfl))
    (by
      intro W args ds p base hval hA hlt
      rw [Try.params4] at hA hval
      obtain ⟨v0, vs0, d0, ds0, p0, q0, hargs, rfl, rfl, h0, r0⟩ := trodAll_cons hA
      obtain ⟨rfl, rfl, rfl⟩ := trodAll_nil r0
      obtain rfl : args = #[v0] := by cases args; simp_all
      obtain ⟨A, gA, rfl⟩ := open_wide (hval 0 25 v0 rfl rfl) h0
      exact texts_walk A gA W)

theorem WideTexts : Rows.WideTextsSaid := OpenClaim.holds_of_wide 4 Try.f4 rfl rfl rfl rfl rfl rfl rfl ⟨rfl, rfl, rfl, rfl, rfl⟩ rfl rfl rfl rfl rfl (by kernel_rfl) Try.func4 (by kernel_rfl) (of_decide_eq_true (by kernel_rfl)) (by unfold Func.isWrapper; first | (rw [if_pos (by decide +kernel)]; kernel_rfl) | (rw [if_neg (by decide +kernel)]; exact ⟨rfl, rfl⟩)) (fun os started H enc _ => wideTexts_lifted os started H enc)
#print axioms WideTexts
end Go.Proofs.Ythlhmijgbjcloaa
