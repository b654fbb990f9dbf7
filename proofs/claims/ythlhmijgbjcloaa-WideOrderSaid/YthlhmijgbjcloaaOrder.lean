/- gazetteerlaw07.WideOrder answers true at every three numbers: Cmp is a total order, and sums that lose nothing keep it. -/
import Derived.Test.YthlhmijgbjcloaaWakes07
import Derived.Test.YthlhmijgbjcloaaRowKit
import Derived.Test.YthlhmijgbjcloaaEq
import Derived.Test.YthlhmijgbjcloaaKeep
import Derived.Deep.RegionHeld3
import Derived.Deep.CutBlock
import Derived.Deep.DeepCutAuto
namespace Go.Proofs.Ythlhmijgbjcloaa
set_option linter.unusedVariables false
set_option linter.unusedSimpArgs false
open Go.RowKit

theorem cmp_lt {m n : Int} (h : m < n) (w : World) :
    Calls Try.prog 20 #[wd m, wd n] w fun e w' => e = .returned (.int .i64 (-1)) ∧ Below w.heap.size w w' :=
  (cmp_n _ _ w).mono fun _ _ ⟨he, hw⟩ => ⟨by rw [he, cmpN, if_neg (by omega), if_pos h], hw⟩
theorem cmp_gt {m n : Int} (h : n < m) (w : World) :
    Calls Try.prog 20 #[wd m, wd n] w fun e w' => e = .returned (.int .i64 1) ∧ Below w.heap.size w w' :=
  (cmp_n _ _ w).mono fun _ _ ⟨he, hw⟩ => ⟨by rw [he, cmpN, if_neg (by omega), if_neg (by omega)], hw⟩
theorem cmp_self (m : Int) (w : World) :
    Calls Try.prog 20 #[wd m, wd m] w fun e w' => e = .returned (.int .i64 0) ∧ Below w.heap.size w w' :=
  (cmp_n _ _ w).mono fun _ _ ⟨he, hw⟩ => ⟨by rw [he, cmpN, if_pos rfl], hw⟩
/-- Three numbers in three boxes of the call's own, and what was there as it was. -/
def Three (w : World) (A B C : Int) (wx : World) : Prop := wx.cell? ⟨w.heap.size, 0, none⟩ = some (.int .u64 (hi64 A)) ∧ wx.cell? ⟨w.heap.size, 1, none⟩ = some (.int .u64 (lo64 A)) ∧ wx.cell? ⟨w.heap.size + 1, 0, none⟩ = some (.int .u64 (hi64 B)) ∧ wx.cell? ⟨w.heap.size + 1, 1, none⟩ = some (.int .u64 (lo64 B)) ∧ wx.cell? ⟨w.heap.size + 1 + 1, 0, none⟩ = some (.int .u64 (hi64 C)) ∧ wx.cell? ⟨w.heap.size + 1 + 1, 1, none⟩ = some (.int .u64 (lo64 C)) ∧ Below w.heap.size w wx

set_option maxHeartbeats 2000000 in
set_option maxRecDepth 100000 in
theorem order_walk (A B C : Int) (hA : in128 A) (hB : in128 B) (hC : in128 C) (w : World) :
    Calls Try.prog 5 #[wd A, wd B, wd C] w fun e w' => e = .returned (.bool true) ∧ Below w.heap.size w w' := by
  have H := Lib.hid (And.intro hA (And.intro hB hC))
  clear hA hB hC
  go_enter Try.func5, Try.ntmps5
  go_upto_region 3 with (go_at_call 15; (with_reducible refine (wakes07_any _).mono ?_); rintro e w1 ⟨rfl, hb1⟩)
  go_cut [30] (fun s30 wx => s30 = .bool false ∧ Three w A B C wx)
  case first =>
    have hT : Three w A B C w1 := by
      obtain ⟨hc, hf⟩ := bcell hb1
      have hk : ∀ b o, b < w.heap.size + 1 + 1 + 1 → _ := fun b o h => hc b o (by simpa using h)
      refine ⟨?_, ?_, ?_, ?_, ?_, ?_, ?_⟩
      all_goals first
        | (refine (hk _ _ (by omega)).trans ?_; go_simp; done)
        | exact keep_below (by (repeat (first | exact Below.refl _ _ | refine Below.drew ?_ | refine below_drewN' ?_ | refine Below.alloc ?_ (by simp; try omega) _ | refine Below.setCell ?_ (by simp; try omega) _))) hb1
    obtain ⟨c0, c1, c2, c3, c4, c5, hB⟩ := hT
    clear hb1
    rcases Int.lt_trichotomy A B with hAB | hAB | hAB
    · have H1 := Lib.hid hAB
      have hne : (hi64 A == hi64 B && lo64 A == lo64 B) = false := by
        have : ¬ (hi64 A = hi64 B ∧ lo64 A = lo64 B) := fun h => by have := hl_inj h.1 h.2; omega
        simpa using this
      have heq : ∀ W, (binOp .eql 25 (wd A) (wd B)).run Try.prog W = .ok (.bool false) W := fun W => by rw [eql25, hne]
      clear hne
      clear hAB
      go_region_held3 (fun w' => w'.cell? ⟨w.heap.size, 0, none⟩ = some (.int .u64 (hi64 A)) ∧ w'.cell? ⟨w.heap.size, 1, none⟩ = some (.int .u64 (lo64 A)) ∧ w'.cell? ⟨w.heap.size + 1, 0, none⟩ = some (.int .u64 (hi64 B)) ∧ w'.cell? ⟨w.heap.size + 1, 1, none⟩ = some (.int .u64 (lo64 B)) ∧ w'.cell? ⟨w.heap.size + 1 + 1, 0, none⟩ = some (.int .u64 (hi64 C)) ∧ w'.cell? ⟨w.heap.size + 1 + 1, 1, none⟩ = some (.int .u64 (lo64 C)) ∧ Below w.heap.size w w') ((first | (go_split_ands; (repeat' apply And.intro) <;> (first | assumption | exact keep_cell hb2 (by assumption) | exact keep_below (by assumption) hb2 | exact Below.drew (by assumption) | exact keep_alloc _ (by assumption) | exact keep_below_alloc _ (by assumption) | (go_simp; done))) | (go_simp; done) | (simp [go_sem, *]; done)))
        (first
          | (refine goes Try.func20 (by kernel_rfl) rfl #[wd A, wd B] (by rfl) rfl rfl ?_ ?_; ((try simp only [List.map_toArray, List.map_cons, List.map_nil]); rfl); (with_reducible refine (cmp_lt H1.out _).mono ?_); rintro e w2 ⟨rfl, hb2⟩; refine ⟨_, rfl, ?_⟩)
          | (refine goes Try.func20 (by kernel_rfl) rfl #[wd B, wd A] (by rfl) rfl rfl ?_ ?_; ((try simp only [List.map_toArray, List.map_cons, List.map_nil]); rfl); (with_reducible refine (cmp_gt H1.out _).mono ?_); rintro e w2 ⟨rfl, hb2⟩; refine ⟨_, rfl, ?_⟩))
      go_wp2_with fail
      go_meet
      go_split_ands
      exact ⟨rfl, by (unfold Three; (repeat' apply And.intro) <;> assumption)⟩
    · subst hAB
      go_region_held3 (fun w' => w'.cell? ⟨w.heap.size, 0, none⟩ = some (.int .u64 (hi64 A)) ∧ w'.cell? ⟨w.heap.size, 1, none⟩ = some (.int .u64 (lo64 A)) ∧ w'.cell? ⟨w.heap.size + 1, 0, none⟩ = some (.int .u64 (hi64 A)) ∧ w'.cell? ⟨w.heap.size + 1, 1, none⟩ = some (.int .u64 (lo64 A)) ∧ w'.cell? ⟨w.heap.size + 1 + 1, 0, none⟩ = some (.int .u64 (hi64 C)) ∧ w'.cell? ⟨w.heap.size + 1 + 1, 1, none⟩ = some (.int .u64 (lo64 C)) ∧ Below w.heap.size w w') ((first | (go_split_ands; (repeat' apply And.intro) <;> (first | assumption | exact keep_cell hb2 (by assumption) | exact keep_below (by assumption) hb2 | exact Below.drew (by assumption) | exact keep_alloc _ (by assumption) | exact keep_below_alloc _ (by assumption) | (go_simp; done))) | (go_simp; done) | (simp [go_sem, *]; done)))
        (first
          | (refine goes Try.func20 (by kernel_rfl) rfl #[wd A, wd A] (by rfl) rfl rfl ?_ ?_; ((try simp only [List.map_toArray, List.map_cons, List.map_nil]); rfl); (with_reducible refine (cmp_self A _).mono ?_); rintro e w2 ⟨rfl, hb2⟩; refine ⟨_, rfl, ?_⟩))
      go_wp2_with fail
      go_meet
      go_split_ands
      exact ⟨rfl, by (unfold Three; (repeat' apply And.intro) <;> assumption)⟩
    · have H1 := Lib.hid hAB
      have hne : (hi64 A == hi64 B && lo64 A == lo64 B) = false := by
        have : ¬ (hi64 A = hi64 B ∧ lo64 A = lo64 B) := fun h => by have := hl_inj h.1 h.2; omega
        simpa using this
      have heq : ∀ W, (binOp .eql 25 (wd A) (wd B)).run Try.prog W = .ok (.bool false) W := fun W => by rw [eql25, hne]
      clear hne
      clear hAB
      go_region_held3 (fun w' => w'.cell? ⟨w.heap.size, 0, none⟩ = some (.int .u64 (hi64 A)) ∧ w'.cell? ⟨w.heap.size, 1, none⟩ = some (.int .u64 (lo64 A)) ∧ w'.cell? ⟨w.heap.size + 1, 0, none⟩ = some (.int .u64 (hi64 B)) ∧ w'.cell? ⟨w.heap.size + 1, 1, none⟩ = some (.int .u64 (lo64 B)) ∧ w'.cell? ⟨w.heap.size + 1 + 1, 0, none⟩ = some (.int .u64 (hi64 C)) ∧ w'.cell? ⟨w.heap.size + 1 + 1, 1, none⟩ = some (.int .u64 (lo64 C)) ∧ Below w.heap.size w w') ((first | (go_split_ands; (repeat' apply And.intro) <;> (first | assumption | exact keep_cell hb2 (by assumption) | exact keep_below (by assumption) hb2 | exact Below.drew (by assumption) | exact keep_alloc _ (by assumption) | exact keep_below_alloc _ (by assumption) | (go_simp; done))) | (go_simp; done) | (simp [go_sem, *]; done)))
        (first
          | (refine goes Try.func20 (by kernel_rfl) rfl #[wd A, wd B] (by rfl) rfl rfl ?_ ?_; ((try simp only [List.map_toArray, List.map_cons, List.map_nil]); rfl); (with_reducible refine (cmp_gt H1.out _).mono ?_); rintro e w2 ⟨rfl, hb2⟩; refine ⟨_, rfl, ?_⟩)
          | (refine goes Try.func20 (by kernel_rfl) rfl #[wd B, wd A] (by rfl) rfl rfl ?_ ?_; ((try simp only [List.map_toArray, List.map_cons, List.map_nil]); rfl); (with_reducible refine (cmp_lt H1.out _).mono ?_); rintro e w2 ⟨rfl, hb2⟩; refine ⟨_, rfl, ?_⟩))
      go_wp2_with fail
      go_meet
      go_split_ands
      exact ⟨rfl, by (unfold Three; (repeat' apply And.intro) <;> assumption)⟩
  case rest =>
    obtain ⟨rfl, c0, c1, c2, c3, c4, c5, hB⟩ := hcut
    obtain ⟨p, hp, hpp, hpc⟩ : ∃ p, (∀ W, Hid (Calls Try.prog 20 #[wd A, wd B] W fun e w' => e = .returned (.int .i64 p) ∧ Below W.heap.size W w')) ∧ (p ≤ 0 ↔ A ≤ B) ∧ p = cmpN A B := ⟨_, fun W => cmp_n A B W, by unfold cmpN; split <;> (try split) <;> omega, rfl⟩
    obtain ⟨q, hq, hqq⟩ : ∃ p, (∀ W, Hid (Calls Try.prog 20 #[wd B, wd C] W fun e w' => e = .returned (.int .i64 p) ∧ Below W.heap.size W w')) ∧ (p ≤ 0 ↔ B ≤ C) := ⟨_, fun W => cmp_n B C W, by unfold cmpN; split <;> (try split) <;> omega⟩
    obtain ⟨r, hr, hrr⟩ : ∃ p, (∀ W, Hid (Calls Try.prog 20 #[wd A, wd C] W fun e w' => e = .returned (.int .i64 p) ∧ Below W.heap.size W w')) ∧ (p ≤ 0 ↔ A ≤ C) := ⟨_, fun W => cmp_n A C W, by unfold cmpN; split <;> (try split) <;> omega⟩
    have hpqr : p ≤ 0 → q ≤ 0 → r ≤ 0 := fun h1 h2 => hrr.2 (Int.le_trans (hpp.1 h1) (hqq.1 h2))
    have HPQ := Lib.hid hpqr
    have hadd1 := fun W => Lib.hid (add_n A C W H.out.1 H.out.2.2)
    have hadd2 := fun W => Lib.hid (add_n B C W H.out.2.1 H.out.2.2)
    have hp2 : lt128 (A + C) = true → lt128 (B + C) = true → ∀ W, Hid (Calls Try.prog 20 #[wd (m128 (A + C)), wd (m128 (B + C))] W fun e w' => e = .returned (.int .i64 p) ∧ Below W.heap.size W w') := by
      intro g1 g2 W
      obtain ⟨a1, a2, a3⟩ := H.out
      have e : cmpN (m128 (A + C)) (m128 (B + C)) = p := by
        rw [hpc]
        unfold lt128 at g1 g2
        simp only [decide_eq_true_eq] at g1 g2
        unfold in128 at a1 a2 a3
        unfold m128
        rw [Int.emod_eq_of_lt (by omega) g1, Int.emod_eq_of_lt (by omega) g2]
        unfold cmpN
        by_cases h : A = B
        · rw [if_pos h, if_pos (by omega)]
        · rw [if_neg h, if_neg (by omega)]
          by_cases h2 : A < B
          · rw [if_pos h2, if_pos (by omega)]
          · rw [if_neg h2, if_neg (by omega)]
      exact e ▸ cmp_n (m128 (A + C)) (m128 (B + C)) W
    have HP2 := Lib.hid hp2
    clear hpp hqq hrr hpqr hpc hp2
    go_upto_region 5 with fail
    go_cut [46] (fun s46 wx => s46 = .bool false ∧ Three w A B C wx)
    case first =>
      by_cases h1 : p ≤ 0
      · by_cases h2 : q ≤ 0
        · have h3 := HPQ.out h1 h2
          go_wp2_with (first
              | (go_at_call 20; (with_reducible refine ((hp _).out).mono ?_); rintro e w2 ⟨rfl, hb2⟩; replace c0 := keep_cell hb2 c0; replace c1 := keep_cell hb2 c1; replace c2 := keep_cell hb2 c2; replace c3 := keep_cell hb2 c3; replace c4 := keep_cell hb2 c4; replace c5 := keep_cell hb2 c5; replace hB := keep_below hB hb2; clear hb2)
              | (go_at_call 20; (with_reducible refine ((hq _).out).mono ?_); rintro e w2 ⟨rfl, hb2⟩; replace c0 := keep_cell hb2 c0; replace c1 := keep_cell hb2 c1; replace c2 := keep_cell hb2 c2; replace c3 := keep_cell hb2 c3; replace c4 := keep_cell hb2 c4; replace c5 := keep_cell hb2 c5; replace hB := keep_below hB hb2; clear hb2)
              | (go_at_call 20; (with_reducible refine ((hr _).out).mono ?_); rintro e w2 ⟨rfl, hb2⟩; replace c0 := keep_cell hb2 c0; replace c1 := keep_cell hb2 c1; replace c2 := keep_cell hb2 c2; replace c3 := keep_cell hb2 c3; replace c4 := keep_cell hb2 c4; replace c5 := keep_cell hb2 c5; replace hB := keep_below hB hb2; clear hb2))
          go_meet
          exact ⟨by simp; omega, c0, c1, c2, c3, c4, c5, hB⟩
        · go_wp2_with (first
              | (go_at_call 20; (with_reducible refine ((hp _).out).mono ?_); rintro e w2 ⟨rfl, hb2⟩; replace c0 := keep_cell hb2 c0; replace c1 := keep_cell hb2 c1; replace c2 := keep_cell hb2 c2; replace c3 := keep_cell hb2 c3; replace c4 := keep_cell hb2 c4; replace c5 := keep_cell hb2 c5; replace hB := keep_below hB hb2; clear hb2)
              | (go_at_call 20; (with_reducible refine ((hq _).out).mono ?_); rintro e w2 ⟨rfl, hb2⟩; replace c0 := keep_cell hb2 c0; replace c1 := keep_cell hb2 c1; replace c2 := keep_cell hb2 c2; replace c3 := keep_cell hb2 c3; replace c4 := keep_cell hb2 c4; replace c5 := keep_cell hb2 c5; replace hB := keep_below hB hb2; clear hb2)
              | (go_at_call 20; (with_reducible refine ((hr _).out).mono ?_); rintro e w2 ⟨rfl, hb2⟩; replace c0 := keep_cell hb2 c0; replace c1 := keep_cell hb2 c1; replace c2 := keep_cell hb2 c2; replace c3 := keep_cell hb2 c3; replace c4 := keep_cell hb2 c4; replace c5 := keep_cell hb2 c5; replace hB := keep_below hB hb2; clear hb2))
          go_meet
          exact ⟨rfl, c0, c1, c2, c3, c4, c5, hB⟩
      · go_wp2_with (first
              | (go_at_call 20; (with_reducible refine ((hp _).out).mono ?_); rintro e w2 ⟨rfl, hb2⟩; replace c0 := keep_cell hb2 c0; replace c1 := keep_cell hb2 c1; replace c2 := keep_cell hb2 c2; replace c3 := keep_cell hb2 c3; replace c4 := keep_cell hb2 c4; replace c5 := keep_cell hb2 c5; replace hB := keep_below hB hb2; clear hb2)
              | (go_at_call 20; (with_reducible refine ((hq _).out).mono ?_); rintro e w2 ⟨rfl, hb2⟩; replace c0 := keep_cell hb2 c0; replace c1 := keep_cell hb2 c1; replace c2 := keep_cell hb2 c2; replace c3 := keep_cell hb2 c3; replace c4 := keep_cell hb2 c4; replace c5 := keep_cell hb2 c5; replace hB := keep_below hB hb2; clear hb2)
              | (go_at_call 20; (with_reducible refine ((hr _).out).mono ?_); rintro e w2 ⟨rfl, hb2⟩; replace c0 := keep_cell hb2 c0; replace c1 := keep_cell hb2 c1; replace c2 := keep_cell hb2 c2; replace c3 := keep_cell hb2 c3; replace c4 := keep_cell hb2 c4; replace c5 := keep_cell hb2 c5; replace hB := keep_below hB hb2; clear hb2))
        go_meet
        exact ⟨rfl, c0, c1, c2, c3, c4, c5, hB⟩
    case rest =>
      clear c0 c1 c2 c3 c4 c5 hB
      obtain ⟨rfl, c0, c1, c2, c3, c4, c5, hB⟩ := hcut
      generalize hX : m128 (A + C) = X at hadd1 HP2
      generalize hY : m128 (B + C) = Y at hadd2 HP2
      generalize ho1 : lt128 (A + C) = o1 at hadd1 HP2
      generalize ho2 : lt128 (B + C) = o2 at hadd2 HP2
      clear hX hY ho1 ho2
      go_upto_region 9 with (first
              | (go_at_call 21; (with_reducible refine (hadd1 _).out.mono ?_); rintro e wa ⟨rfl, hba⟩; replace c0 := keep_cell hba c0; replace c1 := keep_cell hba c1; replace c2 := keep_cell hba c2; replace c3 := keep_cell hba c3; replace c4 := keep_cell hba c4; replace c5 := keep_cell hba c5; replace hB := keep_below hB hba; have l0 := lt_cell c0; have l2 := lt_cell c2; have l4 := lt_cell c4; clear hba)
              | (go_at_call 21; (with_reducible refine (hadd2 _).out.mono ?_); rintro e wb ⟨rfl, hbb⟩; replace c0 := keep_cell hbb (keep_alloc _ c0); replace c1 := keep_cell hbb (keep_alloc _ c1); replace c2 := keep_cell hbb (keep_alloc _ c2); replace c3 := keep_cell hbb (keep_alloc _ c3); replace c4 := keep_cell hbb (keep_alloc _ c4); replace c5 := keep_cell hbb (keep_alloc _ c5); replace hB := keep_below (keep_below_alloc _ hB) hbb; have l0 := lt_cell c0; have l2 := lt_cell c2; have l4 := lt_cell c4; have x0 := keep_cell hbb (World.cell?_alloc_at (w := wa) _ _ wa.heap.size 0 rfl); have x1 := keep_cell hbb (World.cell?_alloc_at (w := wa) _ _ wa.heap.size 1 rfl); have lx := lt_cell x0; clear hbb))
      replace hB := keep_below_alloc (.cells #[.int .u64 (hi64 Y), .int .u64 (lo64 Y)] 25) hB
      by_cases hq1 : o1 = true
      · subst hq1
        by_cases hq2 : o2 = true
        · subst hq2
          have hpp := fun W => HP2.out rfl rfl W
          clear HP2
          have y0 := World.cell?_alloc_at (w := wb) (#[.int .u64 (hi64 Y), .int .u64 (lo64 Y)]) 25 wb.heap.size 0 rfl
          have y1 := World.cell?_alloc_at (w := wb) (#[.int .u64 (hi64 Y), .int .u64 (lo64 Y)]) 25 wb.heap.size 1 rfl
          replace c0 := keep_alloc (.cells #[.int .u64 (hi64 Y), .int .u64 (lo64 Y)] 25) c0
          replace c1 := keep_alloc (.cells #[.int .u64 (hi64 Y), .int .u64 (lo64 Y)] 25) c1
          replace c2 := keep_alloc (.cells #[.int .u64 (hi64 Y), .int .u64 (lo64 Y)] 25) c2
          replace c3 := keep_alloc (.cells #[.int .u64 (hi64 Y), .int .u64 (lo64 Y)] 25) c3
          replace x0 := keep_alloc (.cells #[.int .u64 (hi64 Y), .int .u64 (lo64 Y)] 25) x0
          replace x1 := keep_alloc (.cells #[.int .u64 (hi64 Y), .int .u64 (lo64 Y)] 25) x1
          clear l0 l2 l4 lx HPQ hq hr hadd1 hadd2 c4 c5
          go_region_held3 (fun w' => w'.cell? ⟨w.heap.size, 0, none⟩ = some (.int .u64 (hi64 A)) ∧ w'.cell? ⟨w.heap.size, 1, none⟩ = some (.int .u64 (lo64 A)) ∧ w'.cell? ⟨w.heap.size + 1, 0, none⟩ = some (.int .u64 (hi64 B)) ∧ w'.cell? ⟨w.heap.size + 1, 1, none⟩ = some (.int .u64 (lo64 B)) ∧ w'.cell? ⟨wa.heap.size, 0, none⟩ = some (.int .u64 (hi64 X)) ∧ w'.cell? ⟨wa.heap.size, 1, none⟩ = some (.int .u64 (lo64 X)) ∧ w'.cell? ⟨wb.heap.size, 0, none⟩ = some (.int .u64 (hi64 Y)) ∧ w'.cell? ⟨wb.heap.size, 1, none⟩ = some (.int .u64 (lo64 Y)) ∧ Below w.heap.size w w') ((first | (go_split_ands; (repeat' apply And.intro) <;> (first | assumption | exact keep_cell hb2 (by assumption) | exact keep_below (by assumption) hb2 | exact Below.drew (by assumption) | exact keep_alloc _ (by assumption) | exact keep_below_alloc _ (by assumption) | (go_simp; done))) | (go_simp; done) | (simp [go_sem, *]; done)))
            (first
              | (refine goes Try.func20 (by kernel_rfl) rfl #[wd X, wd Y] (by rfl) rfl rfl ?_ ?_; ((try simp only [List.map_toArray, List.map_cons, List.map_nil]); rfl); (with_reducible refine ((hpp _).out).mono ?_); rintro e w2 ⟨rfl, hb2⟩; refine ⟨_, rfl, ?_⟩)
              | (refine goes Try.func20 (by kernel_rfl) rfl #[wd A, wd B] (by rfl) rfl rfl ?_ ?_; ((try simp only [List.map_toArray, List.map_cons, List.map_nil]); rfl); (with_reducible refine ((hp _).out).mono ?_); rintro e w2 ⟨rfl, hb2⟩; refine ⟨_, rfl, ?_⟩))
          go_wp2
          go_ret
          go_split_ands
          exact ⟨by simp, by assumption⟩
        · simp only [Bool.not_eq_true] at hq2
          subst hq2
          clear c0 c1 c2 c3 c4 c5 x0 x1 l0 l2 l4 lx HP2 HPQ hp hq hr hadd1 hadd2
          go_quiet (fail)
          go_wp2
          go_ret
          exact ⟨by simp, below_drewN' hB⟩
      · simp only [Bool.not_eq_true] at hq1
        subst hq1
        clear c0 c1 c2 c3 c4 c5 x0 x1 l0 l2 l4 lx HP2 HPQ hp hq hr hadd1 hadd2
        go_quiet (fail)
        go_wp2
        go_ret
        exact ⟨by simp, below_drewN' hB⟩
end Go.Proofs.Ythlhmijgbjcloaa
