/- What the row of this claim reaches. No condition. -/
import Derived.Test.YtfggjefncnhikaaZKeep
set_option linter.unusedVariables false
set_option linter.unusedSimpArgs false
namespace Go.Proofs.Ytfggjefncnhikaa
open Go.RowKit
def cmpI (a b : Int) : Int := if a < b then -1 else if b < a then 1 else 0
theorem cmpI_neg {a b : Int} (h : cmpI a b < 0) : a < b := by
  unfold cmpI at h
  split at h
  · assumption
  · split at h <;> omega
theorem cmpI_nonneg {a b : Int} (h : 0 ≤ cmpI a b) : b ≤ a := by
  unfold cmpI at h
  split at h
  · omega
  · omega
theorem cmpI_zero {a b : Int} : cmpI a b = 0 ↔ a = b := by
  unfold cmpI
  split
  · omega
  · split <;> omega
theorem nan_any (a : Int) (w : World) :
    Calls Try.prog 48 #[.int .u64 a] w fun e w' => e = .returned (.bool false) ∧ w = w' := by
  go_enter Try.func48, Try.ntmps48
  go_wp2
  go_ret
  exact ⟨by first | rfl | simp, rfl⟩
set_option maxHeartbeats 1000000 in
theorem compare_any (a b : Int) (w : World) :
    Calls Try.prog 41 #[.int .u64 a, .int .u64 b] w fun e w' => e = .returned (.int .i64 (cmpI a b)) ∧ w = w' := by
  go_enter Try.func41, Try.ntmps41
  go_wp2_with (go_at_call 48; (with_reducible refine (nan_any _ _).mono ?_); rintro e w1 ⟨rfl, rfl⟩)
  all_goals
    go_ret
    refine ⟨?_, rfl⟩
    first
      | (show Ending.returned (.int .i64 (-1)) = _; rw [cmpI, if_pos (by assumption)])
      | (show Ending.returned (.int .i64 1) = _; rw [cmpI, if_neg (by omega), if_pos (by assumption)])
      | (show Ending.returned (.int .i64 0) = _; rw [cmpI, if_neg (by omega), if_neg (by omega)])
set_option maxHeartbeats 1000000 in
theorem order_any (a n b : Int) (w : World) :
    Calls Try.prog 40 #[.agg #[.int .u64 a, .int .u64 n], .int .u64 b] w fun e w' => e = .returned (.int .i64 (cmpI a b)) ∧ Below w.heap.size w w' := by
  go_enter Try.func40, Try.ntmps40
  go_wp2_with (go_at_call 41; (with_reducible refine (compare_any _ _ _).mono ?_); rintro e w1 ⟨rfl, rfl⟩)
  go_ret
  refine ⟨rfl, ?_⟩
  (repeat (first | exact Below.refl _ _ | refine Below.drew ?_ | refine below_drewN' ?_ | refine Below.alloc ?_ (by simp; try omega) _ | refine Below.setCell ?_ (by simp; try omega) _))
def FatesAt (W : World) (ad : Addr) (L : List (Int × Int)) : Prop := ∀ i p, L[i]? = some p → W.cell? (ad.add (i * 2)) = some (.int .u64 p.1) ∧ W.cell? ⟨(ad.add (i * 2)).block, (ad.add (i * 2)).off + 1, none⟩ = some (.int .u64 p.2)
def Fts (W : World) (B : Nat) (A : Option Addr) (L : List (Int × Int)) : Prop := L ≠ [] → ∃ ad, A = some ad ∧ ad.block < B ∧ FatesAt W ad L
theorem FatesAt.keep {W W' : World} {ad : Addr} {L : List (Int × Int)} (h : FatesAt W ad L) (hk : ∀ p : Addr, p.block = ad.block → W'.cell? p = W.cell? p) : FatesAt W' ad L := fun i p hp =>
  ⟨(hk _ (block_of_add _ _)).trans (h i p hp).1, (hk ⟨(ad.add (i * 2)).block, (ad.add (i * 2)).off + 1, none⟩ (block_of_add _ _)).trans (h i p hp).2⟩
theorem Fts.below {W W' : World} {B : Nat} {A : Option Addr} {L : List (Int × Int)} (h : Fts W B A L) (hb : Below B W W') : Fts W' B A L := fun hn => by
  obtain ⟨ad, e, hlt, hf⟩ := h hn
  exact ⟨ad, e, hlt, hf.keep fun p hp => hb.cell (by rw [hp]; exact hlt)⟩
theorem ne_nil_of_get {α : Type} {L : List α} {i : Nat} {p : α} (h : L[i]? = some p) : L ≠ [] := fun e => by subst e; simp at h
set_option maxHeartbeats 1000000 in
theorem search_any (L : List (Int × Int)) (A : Option Addr) (c : Nat) (id : Int) (w : World) (hn : L.length ≤ 500) (hf : Fts w w.heap.size A L)
    (hs : ∀ (i j : Nat) (p q : Int × Int), i < j → L[i]? = some p → L[j]? = some q → p.1 < q.1) :
    Calls Try.prog 39 #[.slice A L.length c, .int .u64 id, .func (.func 40) #[] #[]] w fun e w' => ∃ i : Nat, i ≤ L.length ∧ (∀ k (p : Int × Int), k < i → L[k]? = some p → p.1 < id) ∧ (∀ k (p : Int × Int), i ≤ k → L[k]? = some p → id ≤ p.1) ∧
      e = .returned (.tuple #[.int .i64 (i : Int), .bool (decide (∃ p : Int × Int, L[i]? = some p ∧ p.1 = id))]) ∧ Below w.heap.size w w' := by
  go_enter Try.func39, Try.ntmps39
  go_wp2
  go_loopw [9, 10] (fun v9 v10 wr => ∃ i j : Nat, i ≤ j ∧ j ≤ L.length ∧ v9 = .int .i64 (i : Int) ∧ v10 = .int .i64 (j : Int) ∧ Hid ((∀ k (p : Int × Int), k < i → L[k]? = some p → p.1 < id) ∧ (∀ k p, j ≤ k → L[k]? = some p → id ≤ p.1)) ∧ Below w.heap.size w wr) (fun v9 v10 _ => (intOf v10).toNat - (intOf v9).toNat)
  case atStart =>
    refine ⟨0, L.length, by omega, by omega, by go_num, by go_num, Lib.hid ⟨fun k p hk => by omega, fun k p hk hp => ?_⟩, Below.refl _ _⟩
    rw [List.getElem?_eq_none hk] at hp
    cases hp
  case round =>
    obtain ⟨i, j, hij, hj, rfl, rfl, HI, hB⟩ := hrel
    by_cases hlt : i < j
    · obtain ⟨h, hh⟩ : ∃ h, (i + j) / 2 = h := ⟨_, rfl⟩
      have hhj : h < j := by omega
      have hhi : i ≤ h := by omega
      obtain ⟨⟨x, y⟩, hp⟩ : ∃ p, L[h]? = some p := ⟨_, List.getElem?_eq_getElem (by omega)⟩
      obtain ⟨ad, rfl, hb, hat⟩ := hf (ne_nil_of_get hp)
      obtain ⟨c0, c1⟩ := hat h _ hp
      have d0 : wr.cell? (ad.add (h * 2)) = some (.int .u64 x) := (hB.cell (by rw [block_of_add]; exact hb)).trans c0
      have d1 : wr.cell? ⟨(ad.add (h * 2)).block, (ad.add (h * 2)).off + 1, none⟩ = some (.int .u64 y) := (hB.cell (by show (ad.add (h * 2)).block < _; rw [block_of_add]; exact hb)).trans c1
      go_wp2_with (go_at_call 40; (with_reducible refine (order_any _ _ _ _).mono ?_); rintro e w1 ⟨rfl, hb1⟩)
      · rename_i hneg
        have hxi := cmpI_neg hneg
        refine ⟨⟨h + 1, j, by omega, hj, by rw [← hh]; go_num, rfl, Lib.hid ⟨fun k p hk hkp => ?_, HI.out.2⟩, Below.step hB hb1 hB.size⟩, by simp [intOf]; omega⟩
        rcases Nat.lt_or_ge k h with h1 | h1
        · have := hs k h p _ h1 hkp hp
          exact Int.lt_trans this hxi
        · obtain rfl : k = h := by omega
          rw [hp] at hkp
          cases hkp
          exact hxi
      · rename_i hneg
        have hxi := cmpI_nonneg hneg
        refine ⟨⟨i, h, by omega, by omega, rfl, by rw [← hh]; go_num, Lib.hid ⟨HI.out.1, fun k p hk hkp => ?_⟩, Below.step hB hb1 hB.size⟩, by simp [intOf]; omega⟩
        rcases Nat.lt_or_ge h k with h1 | h1
        · have := hs h k _ p h1 hp hkp
          exact Int.le_of_lt (Int.lt_of_le_of_lt hxi this)
        · obtain rfl : k = h := by omega
          rw [hp] at hkp
          cases hkp
          exact hxi
    · obtain rfl : i = j := by omega
      by_cases hin : i < L.length
      · obtain ⟨⟨x, y⟩, hp⟩ : ∃ p, L[i]? = some p := ⟨_, List.getElem?_eq_getElem hin⟩
        obtain ⟨ad, rfl, hb, hat⟩ := hf (ne_nil_of_get hp)
        obtain ⟨c0, c1⟩ := hat i _ hp
        have d0 : wr.cell? (ad.add (i * 2)) = some (.int .u64 x) := (hB.cell (by rw [block_of_add]; exact hb)).trans c0
        have d1 : wr.cell? ⟨(ad.add (i * 2)).block, (ad.add (i * 2)).off + 1, none⟩ = some (.int .u64 y) := (hB.cell (by show (ad.add (i * 2)).block < _; rw [block_of_add]; exact hb)).trans c1
        go_wp2_with (go_at_call 40; (with_reducible refine (order_any _ _ _ _).mono ?_); rintro e w1 ⟨rfl, hb1⟩)
        refine bodyPost_ret (v := .tuple #[.int .i64 (i : Int), .bool (cmpI x id == 0)]) (by simp [results, Try.results39, go_sem]) rfl ⟨i, by omega, HI.out.1, HI.out.2, ?_, Below.step hB hb1 hB.size⟩
        have e1 : (cmpI x id == 0) = decide (∃ p : Int × Int, L[i]? = some p ∧ p.1 = id) := by
          rw [Bool.eq_iff_iff]
          simp [cmpI_zero, hp]
        rw [← e1]
      · have hi2 : L[i]? = none := List.getElem?_eq_none (by omega)
        go_wp2
        refine bodyPost_ret (v := .tuple #[.int .i64 (i : Int), .bool false]) (by simp [results, Try.results39, go_sem]) rfl ⟨i, by omega, HI.out.1, HI.out.2, ?_, hB⟩
        have e1 : false = decide (∃ p : Int × Int, L[i]? = some p ∧ p.1 = id) := by simp [hi2]
        rw [← e1]
end Go.Proofs.Ytfggjefncnhikaa
