/- gazetteerlaw07.WideTurns answers true at every two numbers: sums and products do not hang on the order, and a difference takes a sum back. -/
import Derived.Test.YthlhmijgbjcloaaWakes07
import Derived.Test.YthlhmijgbjcloaaRowKit
import Derived.Test.YthlhmijgbjcloaaEq
import Derived.Test.YthlhmijgbjcloaaKeep
import Derived.Deep.RegionHeld3
namespace Go.Proofs.Ythlhmijgbjcloaa
set_option linter.unusedVariables false
set_option linter.unusedSimpArgs false
open Go.RowKit

theorem turns_plain {A B : Int} (hA : in128 A) (hB : in128 B) : m128 (m128 (A + B) - B) = A ∧ decide (B ≤ m128 (A + B)) = lt128 (A + B) := by
  unfold in128 at hA hB
  unfold m128 lt128
  refine ⟨by omega, ?_⟩
  by_cases h : A + B < 340282366920938463463374607431768211456
  · simp only [h, decide_true, decide_eq_true_eq]; omega
  · simp only [h, decide_false, decide_eq_false_iff_not]; omega

set_option maxHeartbeats 2000000 in
set_option maxRecDepth 100000 in
theorem turns_walk (A B : Int) (hA : in128 A) (hB : in128 B) (w : World) :
    Calls Try.prog 8 #[wd A, wd B] w fun e w' => e = .returned (.bool true) ∧ Below w.heap.size w w' := by
  obtain ⟨X, hX⟩ : ∃ X, m128 (A + B) = X := ⟨_, rfl⟩
  obtain ⟨o, ho⟩ : ∃ o, lt128 (A + B) = o := ⟨_, rfl⟩
  obtain ⟨M, hM⟩ : ∃ M, lo64 A * lo64 B = M := ⟨_, rfl⟩
  have hadd1 : ∀ W, Hid (Calls Try.prog 21 #[wd A, wd B] W fun e w' => e = .returned (.tuple #[wd X, .bool o]) ∧ Below W.heap.size W w') := fun W => by
    have := add_n A B W hA hB
    rw [hX, ho] at this
    exact this
  have hadd2 : ∀ W, Hid (Calls Try.prog 21 #[wd B, wd A] W fun e w' => e = .returned (.tuple #[wd X, .bool o]) ∧ Below W.heap.size W w') := fun W => by
    have := add_n B A W hB hA
    rw [Int.add_comm, hX, ho] at this
    exact this
  have hsub : ∀ W, Hid (Calls Try.prog 29 #[wd X, wd B] W fun e w' => e = .returned (.tuple #[wd A, .bool o]) ∧ Below W.heap.size W w') := fun W => by
    have := sub_n (m128 (A + B)) B W (m128_in _) hB
    rw [(turns_plain hA hB).1, (turns_plain hA hB).2, hX, ho] at this
    exact this
  have hmul1 : ∀ W, Hid (Calls Try.prog 16 #[.int .u64 (lo64 A), .int .u64 (lo64 B)] W fun e w' => e = .returned (wd M) ∧ Below W.heap.size W w') := fun W => by
    have := mul_any (lo64 A) (lo64 B) W (lo_isU A) (lo_isU B)
    rw [hM] at this
    exact this
  have hmul2 : ∀ W, Hid (Calls Try.prog 16 #[.int .u64 (lo64 B), .int .u64 (lo64 A)] W fun e w' => e = .returned (wd M) ∧ Below W.heap.size W w') := fun W => by
    have := mul_any (lo64 B) (lo64 A) W (lo_isU B) (lo_isU A)
    rw [Int.mul_comm, hM] at this
    exact this
  have heq : ∀ (Z : Int) W, (binOp .eql 25 (wd Z) (wd Z)).run Try.prog W = .ok (.bool true) W := fun Z W => by rw [eql25]; simp
  clear hX ho hM hA hB
  go_enter Try.func8, Try.ntmps8
  go_upto_region 6 with (first
    | (go_at_call 15; (with_reducible refine (wakes07_any _).mono ?_); rintro e w1 ⟨rfl, hb1⟩; obtain ⟨hc, hf⟩ := bcell hb1; have c0 : w1.cell? ⟨w.heap.size, 0, none⟩ = some (.int .u64 (hi64 A)) := (hc _ _ (by first | omega | (simp; done) | (simp; omega) | (simp at *; omega))).trans (by go_simp); have c1 : w1.cell? ⟨w.heap.size, 1, none⟩ = some (.int .u64 (lo64 A)) := (hc _ _ (by first | omega | (simp; done) | (simp; omega) | (simp at *; omega))).trans (by go_simp); have c2 : w1.cell? ⟨w.heap.size + 1, 0, none⟩ = some (.int .u64 (hi64 B)) := (hc _ _ (by first | omega | (simp; done) | (simp; omega) | (simp at *; omega))).trans (by go_simp); have c3 : w1.cell? ⟨w.heap.size + 1, 1, none⟩ = some (.int .u64 (lo64 B)) := (hc _ _ (by first | omega | (simp; done) | (simp; omega) | (simp at *; omega))).trans (by go_simp); have hB : Below w.heap.size w w1 := keep_below (by (repeat (first | exact Below.refl _ _ | refine Below.drew ?_ | refine below_drewN' ?_ | refine Below.alloc ?_ (by simp; try omega) _ | refine Below.setCell ?_ (by simp; try omega) _))) hb1; have lc0 := lt_cell c0; have lc2 := lt_cell c2; clear hb1 hc hf)
    | (go_at_call 21; (with_reducible refine (hadd1 _).out.mono ?_); rintro e wa ⟨rfl, hba⟩; replace c0 := keep_cell hba c0; replace c1 := keep_cell hba c1; replace c2 := keep_cell hba c2; replace c3 := keep_cell hba c3; replace hB := keep_below hB hba; have lc0 := lt_cell c0; have lc2 := lt_cell c2; clear hba)
    | (go_at_call 21; (with_reducible refine (hadd2 _).out.mono ?_); rintro e wb ⟨rfl, hbb⟩; replace c0 := keep_cell hbb (keep_alloc _ c0); replace c1 := keep_cell hbb (keep_alloc _ c1); replace c2 := keep_cell hbb (keep_alloc _ c2); replace c3 := keep_cell hbb (keep_alloc _ c3); replace hB := keep_below (keep_below_alloc _ hB) hbb; have x0 := keep_cell hbb (World.cell?_alloc_at (w := wa) _ _ wa.heap.size 0 rfl); have x1 := keep_cell hbb (World.cell?_alloc_at (w := wa) _ _ wa.heap.size 1 rfl); have lc0 := lt_cell c0; have lc2 := lt_cell c2; have lx0 := lt_cell x0; clear hbb)
    | (go_at_call 29; (with_reducible refine (hsub _).out.mono ?_); rintro e wc ⟨rfl, hbc⟩; replace c0 := keep_cell hbc (keep_alloc _ c0); replace c1 := keep_cell hbc (keep_alloc _ c1); replace c2 := keep_cell hbc (keep_alloc _ c2); replace c3 := keep_cell hbc (keep_alloc _ c3); replace x0 := keep_cell hbc (keep_alloc _ x0); replace x1 := keep_cell hbc (keep_alloc _ x1); replace hB := keep_below (keep_below_alloc _ hB) hbc; have y0 := keep_cell hbc (World.cell?_alloc_at (w := wb) _ _ wb.heap.size 0 rfl); have y1 := keep_cell hbc (World.cell?_alloc_at (w := wb) _ _ wb.heap.size 1 rfl); have lc0 := lt_cell c0; have lc2 := lt_cell c2; have lx0 := lt_cell x0; have ly0 := lt_cell y0; clear hbc))
  obtain ⟨ob, hob⟩ : ∃ ob, ob = Obj.cells #[.int .u64 (hi64 A), .int .u64 (lo64 A)] 25 := ⟨_, rfl⟩
  have z0 := World.cell?_alloc_at (w := wc) (#[.int .u64 (hi64 A), .int .u64 (lo64 A)]) 25 wc.heap.size 0 rfl
  have z1 := World.cell?_alloc_at (w := wc) (#[.int .u64 (hi64 A), .int .u64 (lo64 A)]) 25 wc.heap.size 1 rfl
  rw [← hob] at z0 z1 ⊢
  clear hob
  replace c0 := keep_alloc (ob) c0; replace c1 := keep_alloc (ob) c1; replace c2 := keep_alloc (ob) c2; replace c3 := keep_alloc (ob) c3; replace x0 := keep_alloc (ob) x0; replace x1 := keep_alloc (ob) x1; replace y0 := keep_alloc (ob) y0; replace y1 := keep_alloc (ob) y1; replace hB := keep_below_alloc (ob) hB
  cases o
  all_goals
    go_region_held3 (fun w' => w'.cell? ⟨w.heap.size, 0, none⟩ = some (.int .u64 (hi64 A)) ∧ w'.cell? ⟨w.heap.size, 1, none⟩ = some (.int .u64 (lo64 A)) ∧ w'.cell? ⟨w.heap.size + 1, 0, none⟩ = some (.int .u64 (hi64 B)) ∧ w'.cell? ⟨w.heap.size + 1, 1, none⟩ = some (.int .u64 (lo64 B)) ∧ w'.cell? ⟨wa.heap.size, 0, none⟩ = some (.int .u64 (hi64 X)) ∧ w'.cell? ⟨wa.heap.size, 1, none⟩ = some (.int .u64 (lo64 X)) ∧ w'.cell? ⟨wb.heap.size, 0, none⟩ = some (.int .u64 (hi64 X)) ∧ w'.cell? ⟨wb.heap.size, 1, none⟩ = some (.int .u64 (lo64 X)) ∧ w'.cell? ⟨wc.heap.size, 0, none⟩ = some (.int .u64 (hi64 A)) ∧ w'.cell? ⟨wc.heap.size, 1, none⟩ = some (.int .u64 (lo64 A)) ∧ Below w.heap.size w w') ((first | (go_split_ands; (repeat' apply And.intro) <;> (first | assumption | exact keep_cell hb2 (by assumption) | exact keep_below (by assumption) hb2 | exact Below.drew (by assumption) | exact keep_alloc _ (by assumption) | exact keep_below_alloc _ (by assumption) | (go_simp; done))) | (go_simp; done) | (simp [go_sem, *]; done)))
      (first
        | (refine goes Try.func16 (by kernel_rfl) rfl #[.int .u64 (lo64 A), .int .u64 (lo64 B)] (by rfl) rfl rfl ?_ ?_; ((try simp only [List.map_toArray, List.map_cons, List.map_nil]); rfl); (with_reducible refine ((hmul1 _).out).mono ?_); rintro e w2 ⟨rfl, hb2⟩; refine ⟨_, rfl, ?_⟩)
        | (refine goes Try.func16 (by kernel_rfl) rfl #[.int .u64 (lo64 B), .int .u64 (lo64 A)] (by rfl) rfl rfl ?_ ?_; ((try simp only [List.map_toArray, List.map_cons, List.map_nil]); rfl); (with_reducible refine ((hmul2 _).out).mono ?_); rintro e w2 ⟨rfl, hb2⟩; refine ⟨_, rfl, ?_⟩))
    go_wp2
    go_ret
    go_split_ands
    exact ⟨by simp, by assumption⟩
end Go.Proofs.Ythlhmijgbjcloaa
