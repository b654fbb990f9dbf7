/- What the row of this claim reaches. No condition. -/
import Derived.Test.YtknlbfandkmeiaaQX0
import Derived.Test.YtknlbfandkmeiaaQVBase
set_option linter.unusedVariables false
set_option linter.unusedSimpArgs false
namespace Go.Proofs.Ytknlbfandkmeiaa.M
open Go.RowKit Go.Proofs.YtknlbfandkmeiaaW.PrintWords Go.Proofs.YtknlbfandkmeiaaW.PrintLast Go.Proofs.YtknlbfandkmeiaaW.PrintMore
def cmpI (a b : Int) : Int := if a < b then -1 else if b < a then 1 else 0
theorem cmpI_neg {a b : Int} (h : cmpI a b < 0) : a < b := by
  unfold cmpI at h
  split at h
  · assumption
  · split at h <;> omega
theorem cmpI_nonneg {a b : Int} (h : 0 ≤ cmpI a b) : b ≤ a := by
  unfold cmpI at h
  split at h
  · omega
  · omega
theorem cmpI_zero {a b : Int} : cmpI a b = 0 ↔ a = b := by
  unfold cmpI
  split
  · omega
  · split <;> omega
theorem nan_any (a : Int) (w : World) :
    Calls Try.prog 97 #[.int .u32 a] w fun e w' => e = .returned (.bool false) ∧ w = w' := by
  go_enter Try.func97, Try.ntmps97
  go_wp2
  go_ret
  exact ⟨by first | rfl | simp, rfl⟩
set_option maxHeartbeats 1000000 in
theorem compare_any (a b : Int) (w : World) :
    Calls Try.prog 86 #[.int .u32 a, .int .u32 b] w fun e w' => e = .returned (.int .i64 (cmpI a b)) ∧ w = w' := by
  go_enter Try.func86, Try.ntmps86
  go_wp2_with (go_at_call 97; (with_reducible refine (nan_any _ _).mono ?_); rintro e w1 ⟨rfl, rfl⟩)
  all_goals
    go_ret
    refine ⟨?_, rfl⟩
    first
      | (show Ending.returned (.int .i64 (-1)) = _; rw [cmpI, if_pos (by assumption)])
      | (show Ending.returned (.int .i64 1) = _; rw [cmpI, if_neg (by omega), if_pos (by assumption)])
      | (show Ending.returned (.int .i64 0) = _; rw [cmpI, if_neg (by omega), if_neg (by omega)])
set_option maxHeartbeats 1000000 in
theorem order_any (a x1 x2 y1 y2 n : Int) (b : Int) (w : World) :
    Calls Try.prog 85 #[.agg #[.int .u32 a, .int .i64 x1, .int .i64 x2, .int .i64 y1, .int .i64 y2, .int .i64 n], .int .u32 b] w fun e w' => e = .returned (.int .i64 (cmpI a b)) ∧ Below w.heap.size w w' := by
  go_enter Try.func85, Try.ntmps85
  go_wp2_with (go_at_call 86; (with_reducible refine (compare_any _ _ _).mono ?_); rintro e w1 ⟨rfl, rfl⟩)
  go_ret
  refine ⟨rfl, ?_⟩
  (repeat (first | exact Below.refl _ _ | refine Below.drew ?_ | refine below_drewN' ?_ | refine Below.alloc ?_ (by simp; try omega) _ | refine Below.setCell ?_ (by simp; try omega) _))
theorem wrap_sm {z : Int} (h : -9223372036854775808 ≤ z) (h2 : z < 9223372036854775808) : IntKind.i64.wrap z = z := by
  rw [IntKind.wrap_i64]; omega
def loR : List S51 → Int → Nat
  | [], _ => 0
  | x :: xs, row => if x.f0 < row then loR xs row + 1 else 0
def thR : List S51 → Int → Bool
  | [], _ => false
  | x :: xs, row => if x.f0 < row then thR xs row else decide (x.f0 = row)
theorem rd_zero (x : S51) (xs : List S51) : rd_T51 (x :: xs) 0 = x := rfl
theorem rd_succ (x : S51) (xs : List S51) (k : Nat) : rd_T51 (x :: xs) ((k + 1 : Nat) : Int) = rd_T51 xs (k : Int) := by
  unfold rd_T51
  simp
theorem lo_of (row : Int) : ∀ (l : List S51) (i : Nat), i ≤ l.length → (∀ k : Nat, k < i → (rd_T51 l k).f0 < row) → (i < l.length → row ≤ (rd_T51 l i).f0) → loR l row = i ∧ thR l row = decide (i < l.length ∧ (rd_T51 l i).f0 = row)
  | [], i, h, _, _ => by
    have : i = 0 := by simpa using h
    subst this
    exact ⟨rfl, by simp [thR]⟩
  | x :: xs, 0, _, _, h2 => by
    have hx := h2 (by simp)
    rw [show ((0 : Nat) : Int) = 0 by rfl, rd_zero] at hx
    have hn : ¬ x.f0 < row := by omega
    refine ⟨by rw [loR, if_neg hn], ?_⟩
    rw [thR, if_neg hn, show ((0 : Nat) : Int) = 0 by rfl, rd_zero]
    simp
  | x :: xs, i + 1, h, h1, h2 => by
    have hx := h1 0 (by omega)
    rw [show ((0 : Nat) : Int) = 0 by rfl, rd_zero] at hx
    obtain ⟨e1, e2⟩ := lo_of row xs i (by simpa using h) (fun k hk => by have := h1 (k + 1) (by omega); rwa [rd_succ] at this) (fun hi => by have := h2 (by simpa using hi); rwa [rd_succ] at this)
    refine ⟨by rw [loR, if_pos hx, e1], ?_⟩
    rw [thR, if_pos hx, e2, rd_succ]
    simp
set_option maxHeartbeats 1000000 in
theorem search_any (l : List S51) (A : Option Addr) (c : Nat) (row : Int) (w : World) (hn : l.length ≤ 1000) (hr : Kd.C k51 w A l.length l)
    (hs : ∀ (i j : Nat), i < j → j < l.length → (rd_T51 l i).f0 < (rd_T51 l j).f0) :
    Calls Try.prog 84 #[.slice A l.length c, .int .u32 row, .func (.func 85) #[] #[]] w fun e w' =>
      e = .returned (.tuple #[.int .i64 (loR l row : Nat), .bool (thR l row)]) ∧ Below w.heap.size w w' := by
  have HR := Lib.hid hr
  clear hr
  have HL := Lib.hid (lo_of row l)
  have HS := Lib.hid hs
  clear hs
  go_enter Try.func84, Try.ntmps84
  go_wp2
  go_loopw [9, 10] (fun v9 v10 wr => ∃ i j : Nat, i ≤ j ∧ j ≤ l.length ∧ v9 = .int .i64 (i : Int) ∧ v10 = .int .i64 (j : Int) ∧ Hid ((∀ k : Nat, k < i → (rd_T51 l k).f0 < row) ∧ (∀ k : Nat, j ≤ k → k < l.length → row ≤ (rd_T51 l k).f0)) ∧ Below w.heap.size w wr) (fun v9 v10 _ => (intOf v10).toNat - (intOf v9).toNat)
  case atStart =>
    exact ⟨0, l.length, by omega, by omega, by go_num, by go_num, Lib.hid ⟨fun k hk => by omega, fun k hk hp => by omega⟩, Below.refl _ _⟩
  case round =>
    obtain ⟨i, j, hij, hj, rfl, rfl, HI, hB⟩ := hrel
    by_cases hlt : i < j
    · obtain ⟨h, hh⟩ : ∃ h, (i + j) / 2 = h := ⟨_, rfl⟩
      have hhj : h < j := by omega
      have hhi : i ≤ h := by omega
      obtain ⟨ad, rfl, x0, x1, x2, x3, x4, x5⟩ := at_T51 (Kd.C_below HR.out hB) (h : Int) (by omega) (by omega)
      rw [Int.toNat_natCast] at x0 x1 x2 x3 x4 x5
      obtain ⟨X, hX⟩ : ∃ X, rd_T51 l (h : Int) = X := ⟨_, rfl⟩
      rw [hX] at x0 x1 x2 x3 x4 x5
      have HX := Lib.hid hX
      clear hX
      go_wp2_with (go_at_call 85; (with_reducible refine (order_any _ _ _ _ _ _ _ _).mono ?_); rintro e w1 ⟨rfl, hb1⟩)
      · rename_i hneg
        have hxi := cmpI_neg hneg
        refine ⟨⟨h + 1, j, by omega, hj, by rw [← hh]; go_num, rfl, Lib.hid ⟨fun k hk => ?_, HI.out.2⟩, Below.step hB hb1 hB.size⟩, by simp [intOf]; omega⟩
        rcases Nat.lt_or_ge k h with h1 | h1
        · have := HS.out k h h1 (by omega)
          rw [HX.out] at this
          exact Int.lt_trans this hxi
        · obtain rfl : k = h := by omega
          rw [HX.out]
          exact hxi
      · rename_i hneg
        have hxi := cmpI_nonneg hneg
        refine ⟨⟨i, h, by omega, by omega, rfl, by rw [← hh]; go_num, Lib.hid ⟨HI.out.1, fun k hk hkp => ?_⟩, Below.step hB hb1 hB.size⟩, by simp [intOf]; omega⟩
        rcases Nat.lt_or_ge h k with h1 | h1
        · have := HS.out h k h1 hkp
          rw [HX.out] at this
          exact Int.le_of_lt (Int.lt_of_le_of_lt hxi this)
        · obtain rfl : k = h := by omega
          rw [HX.out]
          exact hxi
    · obtain rfl : i = j := by omega
      obtain ⟨e1, e2⟩ := HL.out i hj HI.out.1 (fun hi => HI.out.2 i (Nat.le_refl _) hi)
      by_cases hin : i < l.length
      · obtain ⟨ad, rfl, x0, x1, x2, x3, x4, x5⟩ := at_T51 (Kd.C_below HR.out hB) (i : Int) (by omega) (by omega)
        rw [Int.toNat_natCast] at x0 x1 x2 x3 x4 x5
        obtain ⟨X, hX⟩ : ∃ X, rd_T51 l (i : Int) = X := ⟨_, rfl⟩
        rw [hX] at x0 x1 x2 x3 x4 x5 e2
        have E1 := Lib.hid e1
        have E2 := Lib.hid e2
        clear hX e1 e2
        go_wp2_with (go_at_call 85; (with_reducible refine (order_any _ _ _ _ _ _ _ _).mono ?_); rintro e w1 ⟨rfl, hb1⟩)
        refine bodyPost_ret (v := .tuple #[.int .i64 (i : Int), .bool (cmpI X.f0 row == 0)]) (by simp [results, Try.results84, go_sem]) rfl ⟨?_, Below.step hB hb1 hB.size⟩
        have e1 : (cmpI X.f0 row == 0) = thR l row := by
          rw [Bool.eq_iff_iff, E2.out]
          simp [cmpI_zero, hin]
        rw [← e1, E1.out]
      · have E1 := Lib.hid e1
        have E2 := Lib.hid e2
        clear e1 e2
        go_wp2
        refine bodyPost_ret (v := .tuple #[.int .i64 (i : Int), .bool false]) (by simp [results, Try.results84, go_sem]) rfl ⟨?_, hB⟩
        rw [E1.out, E2.out]
        simp [hin]
def riseR (l : List S51) : Prop := l.Pairwise (fun a b => a.f0 < b.f0)
instance (l : List S51) : Decidable (riseR l) := by unfold riseR; infer_instance
def model_find.f (l0 : List S51) (a1 : Int) : Option (Int × Bool) := if l0.length ≤ 1000 ∧ riseR l0 then some ((loR l0 a1 : Nat), thR l0 a1) else none
theorem rd_get {l : List S51} {i : Nat} (h : i < l.length) : rd_T51 l (i : Int) = l[i] := by
  unfold rd_T51
  rw [Int.toNat_natCast, List.getD_eq_getElem?_getD, List.getElem?_eq_getElem h]
  rfl
set_option maxHeartbeats 1000000 in
theorem find_any (A0 : Option Addr) (c0 : Nat) (l0 : List (S51)) (a1 : Int) (r1 : Int) (r2 : Bool) (w : World) (hr0 : Kd.C k51 w A0 l0.length l0) (h : model_find.f l0 a1 = some (r1, r2)) :
    Calls Try.prog 67 #[.slice A0 l0.length c0, .int .u32 a1] w fun e w' => e = .returned (.tuple #[.int .i64 r1, .bool r2]) ∧ Below w.heap.size w w' := by
  unfold model_find.f at h
  by_cases hc : l0.length ≤ 1000 ∧ riseR l0
  case neg => rw [if_neg hc] at h; cases h
  rw [if_pos hc] at h
  injection h with h
  injection h with h1 h2
  subst h1 h2
  have H := Lib.hid (search_any l0 A0 c0 a1 w hc.1 hr0 (fun i j hij hj => by
    rw [rd_get hj, rd_get (Nat.lt_trans hij hj)]
    exact List.pairwise_iff_getElem.1 hc.2 i j _ _ hij))
  clear hr0 hc
  go_enter Try.func67, Try.ntmps67
  go_wp2_with (go_at_call 84; (with_reducible refine H.out.mono ?_); rintro e w1 ⟨rfl, hb1⟩)
  refine bodyPost_ret (v := .tuple #[.int .i64 (loR l0 a1 : Nat), .bool (thR l0 a1)]) (by simp [results, Try.results67, go_sem]) rfl ⟨rfl, hb1⟩
end Go.Proofs.Ytknlbfandkmeiaa.M
