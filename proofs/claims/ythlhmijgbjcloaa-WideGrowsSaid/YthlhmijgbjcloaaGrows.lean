/- gazetteerlaw07.WideGrows answers true: products and boxes grow with what they are made of. -/
import Derived.Test.YthlhmijgbjcloaaWakes07
import Derived.Test.YthlhmijgbjcloaaRowKit
import Derived.Test.YthlhmijgbjcloaaEq
import Derived.Test.YthlhmijgbjcloaaKeep
import Derived.Deep.RegionHeld3
import Derived.Deep.CutBlock
import Derived.Deep.DeepCutAuto
namespace Go.Proofs.Ythlhmijgbjcloaa
set_option linter.unusedVariables false
set_option linter.unusedSimpArgs false
open Go.RowKit

theorem cmpN_ge {m n : Int} (h : n ≤ m) : 0 ≤ cmpN m n := by unfold cmpN; split <;> (try split) <;> omega
theorem cmpN_le {m n : Int} (h : m ≤ n) : cmpN m n ≤ 0 := by unfold cmpN; split <;> (try split) <;> omega
theorem cmpN_lt {m n : Int} (h : m < n) : cmpN m n < 0 := by unfold cmpN; split <;> (try split) <;> omega
/-- Cmp of a number and one of 64 bits. -/
theorem cmp_small (m a : Int) (ha : isU a) (w : World) :
    Calls Try.prog 20 #[wd m, .agg #[.int .u64 0, .int .u64 a]] w fun e w' => e = .returned (.int .i64 (cmpN m a)) ∧ Below w.heap.size w w' := by
  have h := cmp_n m a w
  obtain ⟨h1, h2⟩ := zero_wd a ha
  unfold wd at h
  rw [← h1, ← h2] at h
  exact h
theorem mul_grow {a b : Int} (ha : 0 ≤ a) (hb : 0 < b) : a ≤ a * b := by
  have h := Int.mul_le_mul_of_nonneg_left (show (1 : Int) ≤ b by omega) ha
  omega

theorem grows_plain {x0 x1 y0 y1 : Int} (h0 : isI x0) (h1 : isI x1) (h2 : isI y0) (h3 : isI y1) (hx : x0 < x1) (hy : y0 ≤ y1) :
    isI (x1 - 1) ∧ widthI x0 (x1 - 1) * widthI y0 y1 ≤ widthI x0 x1 * widthI y0 y1 ∧ widthI x0 (x1 - 1) + widthI y0 y1 < widthI x0 x1 + widthI y0 y1 := by
  have h1' : isI (x1 - 1) := by unfold isI at *; omega
  have e1 := width_val h0 h1'
  have e2 := width_val h0 h1
  have e3 := width_val h2 h3
  rw [if_neg (by omega)] at e1 e2 e3
  rw [e1, e2, e3]
  exact ⟨h1', Int.mul_le_mul_of_nonneg_right (by omega) (by omega), by omega⟩
/-- A box in one block of the call's own, a product in another. -/
def GrowW (w : World) (g : Nat) (M x0 x1 y0 y1 : Int) (wx : World) : Prop :=
  wx.cell? ⟨w.heap.size, 0, none⟩ = some (.int .i64 x0) ∧ wx.cell? ⟨w.heap.size, 1, none⟩ = some (.int .i64 x1) ∧ wx.cell? ⟨w.heap.size, 2, none⟩ = some (.int .i64 y0) ∧ wx.cell? ⟨w.heap.size, 3, none⟩ = some (.int .i64 y1) ∧
    wx.cell? ⟨g, 0, none⟩ = some (.int .u64 (hi64 M)) ∧ wx.cell? ⟨g, 1, none⟩ = some (.int .u64 (lo64 M)) ∧ Below w.heap.size w wx

set_option maxHeartbeats 2000000 in
set_option maxRecDepth 100000 in
theorem grows_walk (a b x0 x1 y0 y1 : Int) (ha : isU a) (hb : isU b) (h0 : isI x0) (h1 : isI x1) (h2 : isI y0) (h3 : isI y1) (w : World) :
    Calls Try.prog 9 #[.int .u64 a, .int .u64 b, .agg #[.int .i64 x0, .int .i64 x1, .int .i64 y0, .int .i64 y1]] w fun e w' => e = .returned (.bool true) ∧ Below w.heap.size w w' := by
  obtain ⟨M, hM⟩ : ∃ M, a * b = M := ⟨_, rfl⟩
  have hmul : ∀ W, Hid (Calls Try.prog 16 #[.int .u64 a, .int .u64 b] W fun e w' => e = .returned (wd M) ∧ Below W.heap.size W w') := fun W => by
    have := mul_any a b W ha hb
    rw [hM] at this
    exact this
  obtain ⟨p, hp, hp0⟩ : ∃ p, (∀ W, Hid (Calls Try.prog 20 #[wd M, .agg #[.int .u64 0, .int .u64 a]] W fun e w' => e = .returned (.int .i64 p) ∧ Below W.heap.size W w')) ∧ (0 < b → 0 ≤ p) :=
    ⟨_, fun W => cmp_small M a ha W, fun h => cmpN_ge (by rw [← hM]; exact mul_grow ha.1 h)⟩
  obtain ⟨q, hq, hq0⟩ : ∃ p, (∀ W, Hid (Calls Try.prog 20 #[wd M, .agg #[.int .u64 0, .int .u64 b]] W fun e w' => e = .returned (.int .i64 p) ∧ Below W.heap.size W w')) ∧ (0 < a → 0 ≤ p) :=
    ⟨_, fun W => cmp_small M b hb W, fun h => cmpN_ge (by rw [← hM, Int.mul_comm]; exact mul_grow hb.1 h)⟩
  obtain ⟨r, hr, hr0⟩ : ∃ p, (a < 18446744073709551615 → ∀ W, Hid (Calls Try.prog 16 #[.int .u64 (a + 1), .int .u64 b] W fun e w' => e = .returned (wd ((a + 1) * b)) ∧ Below W.heap.size W w')) ∧ (∀ W, Hid (Calls Try.prog 20 #[wd ((a + 1) * b), wd M] W fun e w' => e = .returned (.int .i64 p) ∧ Below W.heap.size W w') ∧ 0 ≤ p) :=
    ⟨_, fun h W => mul_any (a + 1) b W (by unfold isU at *; omega) hb, fun W => ⟨cmp_n _ _ W, cmpN_ge (by rw [← hM, Int.add_mul]; have := hb.1; omega)⟩⟩
  have HA := Lib.hid ha
  have HB := Lib.hid hb
  have HI := Lib.hid (And.intro h0 (And.intro h1 (And.intro h2 h3)))
  have HP := Lib.hid hp0
  have HQ := Lib.hid hq0
  have HR := Lib.hid hr
  have HR0 := Lib.hid hr0
  clear hM ha hb h0 h1 h2 h3 hp0 hq0 hr hr0
  go_enter Try.func9, Try.ntmps9
  go_upto_region 4 with (first
    | (go_at_call 15; (with_reducible refine (wakes07_any _).mono ?_); rintro e w1 ⟨rfl, hb1⟩; obtain ⟨hc, hf⟩ := bcell hb1; have c0 : w1.cell? ⟨w.heap.size, 0, none⟩ = some (.int .i64 x0) := (hc _ _ (by first | omega | (simp; done) | (simp; omega) | (simp at *; omega))).trans (by go_simp); have c1 : w1.cell? ⟨w.heap.size, 1, none⟩ = some (.int .i64 x1) := (hc _ _ (by first | omega | (simp; done) | (simp; omega) | (simp at *; omega))).trans (by go_simp); have c2 : w1.cell? ⟨w.heap.size, 2, none⟩ = some (.int .i64 y0) := (hc _ _ (by first | omega | (simp; done) | (simp; omega) | (simp at *; omega))).trans (by go_simp); have c3 : w1.cell? ⟨w.heap.size, 3, none⟩ = some (.int .i64 y1) := (hc _ _ (by first | omega | (simp; done) | (simp; omega) | (simp at *; omega))).trans (by go_simp); have hB : Below w.heap.size w w1 := keep_below (by (repeat (first | exact Below.refl _ _ | refine Below.drew ?_ | refine below_drewN' ?_ | refine Below.alloc ?_ (by simp; try omega) _ | refine Below.setCell ?_ (by simp; try omega) _))) hb1; have lc0 := lt_cell c0; clear hb1 hc hf)
    | (go_at_call 16; (with_reducible refine (hmul _).out.mono ?_); rintro e wa ⟨rfl, hba⟩; replace c0 := keep_cell hba c0; replace c1 := keep_cell hba c1; replace c2 := keep_cell hba c2; replace c3 := keep_cell hba c3; replace hB := keep_below hB hba; have lc0 := lt_cell c0; clear hba))
  obtain ⟨ob, hob⟩ : ∃ ob, ob = Obj.cells #[.int .u64 (hi64 M), .int .u64 (lo64 M)] 25 := ⟨_, rfl⟩
  have z0 := World.cell?_alloc_at (w := wa) (#[.int .u64 (hi64 M), .int .u64 (lo64 M)]) 25 wa.heap.size 0 rfl
  have z1 := World.cell?_alloc_at (w := wa) (#[.int .u64 (hi64 M), .int .u64 (lo64 M)]) 25 wa.heap.size 1 rfl
  rw [← hob] at z0 z1 ⊢
  clear hob
  replace c0 := keep_alloc (ob) c0; replace c1 := keep_alloc (ob) c1; replace c2 := keep_alloc (ob) c2; replace c3 := keep_alloc (ob) c3; replace hB := keep_below_alloc (ob) hB
  go_cut [33] (fun s33 wx => s33 = .bool false ∧ GrowW w wa.heap.size M x0 x1 y0 y1 wx)
  case first =>
    by_cases hb0 : 0 < b
    all_goals by_cases ha0 : 0 < a
    all_goals
      (try have g1 := HP.out (by assumption))
      (try have g2 := HQ.out (by assumption))
      go_wp2_with (first
        | (go_at_call 20; (with_reducible refine ((hp _).out).mono ?_); rintro e w2 ⟨rfl, hb2⟩; replace c0 := keep_cell hb2 c0; replace c1 := keep_cell hb2 c1; replace c2 := keep_cell hb2 c2; replace c3 := keep_cell hb2 c3; replace z0 := keep_cell hb2 z0; replace z1 := keep_cell hb2 z1; replace hB := keep_below hB hb2)
        | (go_at_call 20; (with_reducible refine ((hq _).out).mono ?_); rintro e w2 ⟨rfl, hb2⟩; replace c0 := keep_cell hb2 c0; replace c1 := keep_cell hb2 c1; replace c2 := keep_cell hb2 c2; replace c3 := keep_cell hb2 c3; replace z0 := keep_cell hb2 z0; replace z1 := keep_cell hb2 z1; replace hB := keep_below hB hb2))
      go_meet
      exact ⟨by simp; try omega, c0, c1, c2, c3, z0, z1, hB⟩
  case rest =>
    clear c0 c1 c2 c3 z0 z1 hB
    obtain ⟨rfl, c0, c1, c2, c3, z0, z1, hB⟩ := hcut
    have lc0 := lt_cell c0; have lz0 := lt_cell z0
    go_upto_region 6 with fail
    go_cut [44] (fun s44 wx => s44 = .bool false ∧ GrowW w wa.heap.size M x0 x1 y0 y1 wx)
    case first =>
      by_cases hm : a < 18446744073709551615
      · have hr := HR.out hm
        have hr0 := fun W => (HR0.out W).1
        have hr1 : decide (r < 0) = false := decide_eq_false (by have := (HR0.out wa).2; omega)
        have hm1 : decide (a < 18446744073709551615) = true := decide_eq_true hm
        have hm2 : IntKind.u64.wrap (a + 1) = a + 1 := by have := HA.out; unfold isU at this; rw [IntKind.wrap_u64]; omega
        clear hm
        go_region_held3 (fun w' => w'.cell? ⟨w.heap.size, 0, none⟩ = some (.int .i64 x0) ∧ w'.cell? ⟨w.heap.size, 1, none⟩ = some (.int .i64 x1) ∧ w'.cell? ⟨w.heap.size, 2, none⟩ = some (.int .i64 y0) ∧ w'.cell? ⟨w.heap.size, 3, none⟩ = some (.int .i64 y1) ∧ w'.cell? ⟨wa.heap.size, 0, none⟩ = some (.int .u64 (hi64 M)) ∧ w'.cell? ⟨wa.heap.size, 1, none⟩ = some (.int .u64 (lo64 M)) ∧ Below w.heap.size w w') ((first | (go_split_ands; (repeat' apply And.intro) <;> (first | assumption | exact keep_cell hb2 (by assumption) | exact keep_below (by assumption) hb2 | exact Below.drew (by assumption) | exact keep_alloc _ (by assumption) | exact keep_below_alloc _ (by assumption) | (go_simp; done))) | (go_simp; done) | (simp [go_sem, *]; done)))
          (first
            | (refine goes Try.func16 (by kernel_rfl) rfl #[.int .u64 (a + 1), .int .u64 b] (by rfl) rfl rfl ?_ ?_; ((try simp only [List.map_toArray, List.map_cons, List.map_nil]); rfl); (with_reducible refine ((hr _).out).mono ?_); rintro e w2 ⟨rfl, hb2⟩; refine ⟨_, rfl, ?_⟩)
            | (refine goes Try.func20 (by kernel_rfl) rfl #[wd ((a + 1) * b), wd M] (by rfl) rfl rfl ?_ ?_; ((try simp only [List.map_toArray, List.map_cons, List.map_nil]); rfl); (with_reducible refine ((hr0 _).out).mono ?_); rintro e w2 ⟨rfl, hb2⟩; refine ⟨_, rfl, ?_⟩))
        go_wp2_with fail
        go_meet
        go_split_ands
        exact ⟨rfl, by (unfold GrowW; (repeat' apply And.intro) <;> assumption)⟩
      · have hm1 : decide (a < 18446744073709551615) = false := decide_eq_false hm
        clear hm
        go_quiet (fail)
        go_wp2_with fail
        go_meet
        exact ⟨rfl, c0, c1, c2, c3, z0, z1, below_drewN' hB⟩
    case rest =>
      clear c0 c1 c2 c3 z0 z1 hB lc0 lz0
      obtain ⟨rfl, c0, c1, c2, c3, z0, z1, hB⟩ := hcut
      have lc0 := lt_cell c0; have lz0 := lt_cell z0
      by_cases hx : x1 ≤ x0
      · go_wp2_with fail
        go_ret
        exact ⟨rfl, hB⟩
      · by_cases hy : y1 < y0
        · go_wp2_with fail
          go_ret
          exact ⟨rfl, hB⟩
        · obtain ⟨i0, i1, i2, i3⟩ := HI.out
          obtain ⟨i1', gA, gM⟩ := grows_plain i0 i1 i2 i3 (by omega) (by omega)
          have hw : IntKind.i64.wrap (x1 - 1) = x1 - 1 := by unfold isI at i1'; rw [IntKind.wrap_i64]; omega
          have hw2 : wrap64 (x1 - 1) = x1 - 1 := by unfold isI at i1'; unfold wrap64; omega
          have a1 : ∀ W, Hid (Calls Try.prog 24 #[.agg #[.int .i64 x0, .int .i64 (x1 - 1), .int .i64 y0, .int .i64 y1]] W _) := fun W => area_any x0 (x1 - 1) y0 y1 W (width_isU i0 i1') (width_isU i2 i3)
          have a2 : ∀ W, Hid (Calls Try.prog 24 #[.agg #[.int .i64 x0, .int .i64 x1, .int .i64 y0, .int .i64 y1]] W _) := fun W => area_any x0 x1 y0 y1 W (width_isU i0 i1) (width_isU i2 i3)
          have m1 : ∀ W, Hid (Calls Try.prog 26 #[.agg #[.int .i64 x0, .int .i64 (x1 - 1), .int .i64 y0, .int .i64 y1]] W _) := fun W => margin_any x0 (x1 - 1) y0 y1 W (width_isU i0 i1') (width_isU i2 i3)
          have m2 : ∀ W, Hid (Calls Try.prog 26 #[.agg #[.int .i64 x0, .int .i64 x1, .int .i64 y0, .int .i64 y1]] W _) := fun W => margin_any x0 x1 y0 y1 W (width_isU i0 i1) (width_isU i2 i3)
          have k1 : ∀ W, Hid (Calls Try.prog 20 #[wd (widthI x0 (x1 - 1) * widthI y0 y1), wd (widthI x0 x1 * widthI y0 y1)] W _) := fun W => cmp_n _ _ W
          have k2 : ∀ W, Hid (Calls Try.prog 20 #[wd (widthI x0 (x1 - 1) + widthI y0 y1), wd (widthI x0 x1 + widthI y0 y1)] W _) := fun W => cmp_n _ _ W
          have d1 := cmpN_le gA
          have d2 := cmpN_lt gM
          generalize cmpN (widthI x0 (x1 - 1) * widthI y0 y1) (widthI x0 x1 * widthI y0 y1) = r1 at k1 d1
          generalize cmpN (widthI x0 (x1 - 1) + widthI y0 y1) (widthI x0 x1 + widthI y0 y1) = r2 at k2 d2
          generalize widthI x0 (x1 - 1) * widthI y0 y1 = A1 at a1 k1
          generalize widthI x0 x1 * widthI y0 y1 = A2 at a2 k1
          generalize widthI x0 (x1 - 1) + widthI y0 y1 = M1 at m1 k2
          generalize widthI x0 x1 + widthI y0 y1 = M2 at m2 k2
          have d1' : decide (r1 ≤ 0) = true := decide_eq_true d1
          have d2' : decide (r2 < 0) = true := decide_eq_true d2
          clear gA gM i0 i1 i2 i3 i1' d1 d2
          go_wp2_with fail
          obtain ⟨ob2, hob2⟩ : ∃ ob2, ob2 = Obj.cells #[.int .i64 x0, .int .i64 (x1 - 1), .int .i64 y0, .int .i64 y1] 35 := ⟨_, rfl⟩
          have b0 := World.cell?_alloc_at (w := wc) (#[.int .i64 x0, .int .i64 (x1 - 1), .int .i64 y0, .int .i64 y1]) 35 wc.heap.size 0 rfl
          have b1 := World.cell?_alloc_at (w := wc) (#[.int .i64 x0, .int .i64 (x1 - 1), .int .i64 y0, .int .i64 y1]) 35 wc.heap.size 1 rfl
          have b2 := World.cell?_alloc_at (w := wc) (#[.int .i64 x0, .int .i64 (x1 - 1), .int .i64 y0, .int .i64 y1]) 35 wc.heap.size 2 rfl
          have b3 := World.cell?_alloc_at (w := wc) (#[.int .i64 x0, .int .i64 (x1 - 1), .int .i64 y0, .int .i64 y1]) 35 wc.heap.size 3 rfl
          rw [← hob2] at b0 b1 b2 b3 ⊢
          clear hob2 z0 z1 lc0 lz0 hw hw2
          replace c0 := keep_alloc (ob2) c0; replace c1 := keep_alloc (ob2) c1; replace c2 := keep_alloc (ob2) c2; replace c3 := keep_alloc (ob2) c3; replace hB := keep_below_alloc (ob2) hB
          go_region_held3 (fun w' => w'.cell? ⟨w.heap.size, 0, none⟩ = some (.int .i64 x0) ∧ w'.cell? ⟨w.heap.size, 1, none⟩ = some (.int .i64 x1) ∧ w'.cell? ⟨w.heap.size, 2, none⟩ = some (.int .i64 y0) ∧ w'.cell? ⟨w.heap.size, 3, none⟩ = some (.int .i64 y1) ∧ w'.cell? ⟨wc.heap.size, 0, none⟩ = some (.int .i64 x0) ∧ w'.cell? ⟨wc.heap.size, 1, none⟩ = some (.int .i64 (x1 - 1)) ∧ w'.cell? ⟨wc.heap.size, 2, none⟩ = some (.int .i64 y0) ∧ w'.cell? ⟨wc.heap.size, 3, none⟩ = some (.int .i64 y1) ∧ Below w.heap.size w w') ((first | (go_split_ands; (repeat' apply And.intro) <;> (first | assumption | exact keep_cell hb2 (by assumption) | exact keep_below (by assumption) hb2 | exact Below.drew (by assumption) | exact keep_alloc _ (by assumption) | exact keep_below_alloc _ (by assumption) | (go_simp; done))) | (go_simp; done) | (simp [go_sem, *]; done)))
            (first
              | (refine goes Try.func24 (by kernel_rfl) rfl #[.agg #[.int .i64 x0, .int .i64 (x1 - 1), .int .i64 y0, .int .i64 y1]] (by rfl) rfl rfl ?_ ?_; ((try simp only [List.map_toArray, List.map_cons, List.map_nil]); rfl); (with_reducible refine ((a1 _).out).mono ?_); rintro e w2 ⟨rfl, hb2⟩; refine ⟨_, rfl, ?_⟩)
              | (refine goes Try.func24 (by kernel_rfl) rfl #[.agg #[.int .i64 x0, .int .i64 x1, .int .i64 y0, .int .i64 y1]] (by rfl) rfl rfl ?_ ?_; ((try simp only [List.map_toArray, List.map_cons, List.map_nil]); rfl); (with_reducible refine ((a2 _).out).mono ?_); rintro e w2 ⟨rfl, hb2⟩; refine ⟨_, rfl, ?_⟩)
              | (refine goes Try.func26 (by kernel_rfl) rfl #[.agg #[.int .i64 x0, .int .i64 (x1 - 1), .int .i64 y0, .int .i64 y1]] (by rfl) rfl rfl ?_ ?_; ((try simp only [List.map_toArray, List.map_cons, List.map_nil]); rfl); (with_reducible refine ((m1 _).out).mono ?_); rintro e w2 ⟨rfl, hb2⟩; refine ⟨_, rfl, ?_⟩)
              | (refine goes Try.func26 (by kernel_rfl) rfl #[.agg #[.int .i64 x0, .int .i64 x1, .int .i64 y0, .int .i64 y1]] (by rfl) rfl rfl ?_ ?_; ((try simp only [List.map_toArray, List.map_cons, List.map_nil]); rfl); (with_reducible refine ((m2 _).out).mono ?_); rintro e w2 ⟨rfl, hb2⟩; refine ⟨_, rfl, ?_⟩)
              | (refine goes Try.func20 (by kernel_rfl) rfl #[wd A1, wd A2] (by rfl) rfl rfl ?_ ?_; ((try simp only [List.map_toArray, List.map_cons, List.map_nil]); rfl); (with_reducible refine ((k1 _).out).mono ?_); rintro e w2 ⟨rfl, hb2⟩; refine ⟨_, rfl, ?_⟩)
              | (refine goes Try.func20 (by kernel_rfl) rfl #[wd M1, wd M2] (by rfl) rfl rfl ?_ ?_; ((try simp only [List.map_toArray, List.map_cons, List.map_nil]); rfl); (with_reducible refine ((k2 _).out).mono ?_); rintro e w2 ⟨rfl, hb2⟩; refine ⟨_, rfl, ?_⟩))
          go_wp2
          go_ret
          go_split_ands
          exact ⟨by simp, by assumption⟩
end Go.Proofs.Ythlhmijgbjcloaa
