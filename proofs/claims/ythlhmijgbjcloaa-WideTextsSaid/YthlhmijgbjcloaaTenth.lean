/- The walk of gazetteerref07's Tenth: a number by ten and what is left. -/
import Derived.Test.YthlhmijgbjcloaaRefMul
namespace Go.Proofs.Ythlhmijgbjcloaa
set_option linter.unusedVariables false
set_option linter.unusedSimpArgs false
open Go.RowKit

/-- The bits of a tenth from k on, 0 below. -/
def tenF (n k j : Nat) : Int := if k ≤ j then bf (n / 10) j else 0
theorem ten_step (n k : Nat) : bt (n / 10) k = (2 * (n / 2 ^ (k + 1) % 10) + bt n k) / 10 ∧ n / 2 ^ k % 10 = (2 * (n / 2 ^ (k + 1) % 10) + bt n k) % 10 := by
  have e : n / 2 ^ k = 2 * (n / 2 ^ (k + 1)) + bt n k := by
    unfold bt
    rw [Nat.pow_succ, ← Nat.div_div_eq_div_mul]
    omega
  have hb := bt_le n k
  refine ⟨?_, ?_⟩
  · have e2 : bt (n / 10) k = n / 2 ^ k / 10 % 2 := by
      unfold bt
      rw [Nat.div_div_eq_div_mul, Nat.mul_comm, ← Nat.div_div_eq_div_mul]
    rw [e2, e]; omega
  · rw [e]; omega
theorem ten_next (n k j : Nat) : tenF n k j = if j = k then bf (n / 10) k else tenF n (k + 1) j := by
  unfold tenF
  by_cases e : j = k
  · subst e; rw [if_pos (by omega), if_pos rfl]
  · rw [if_neg e]
    by_cases h : k ≤ j
    · rw [if_pos h, if_pos (by omega)]
    · rw [if_neg h, if_neg (by omega)]

set_option maxHeartbeats 1000000 in
set_option maxRecDepth 100000 in
theorem tenth_n (n : Nat) (hn : n < 2 ^ 128) (w : World) :
    Calls Try.prog 51 #[wd n] w fun e w' => e = .returned (.tuple #[wd (n / 10 : Nat), .int .i64 ((n % 10 : Nat) : Int)]) ∧ Below w.heap.size w w' := by
  have hz := zero_row
  have hbits := fun W => Lib.hid (bits_n n hn W)
  have HN := Lib.hid hn
  clear hn
  go_enter Try.func51, Try.ntmps51
  go_wp2_with (first
    | (go_at_call 48; (with_reducible refine (hbits _).out.mono ?_); rintro e w1 ⟨rfl, hb1⟩)
    | (have hq : Blk (w1.alloc (.cells (fv fun _ => 0) 61)) w1.heap.size 61 (fv fun _ => 0) := Blk.newAt rfl; refine wpList_store_row rfl 61 _ _ rfl (w1.heap.size) (fv (bf n)) rfl rfl 61 _ (hq) (size_row _) (by rw [fv_size, fv_size]) (fv_one _) ?_; clear hq))
  have hsz1 := hb1.size
  simp at hsz1
  go_loopw [6, 7] (fun v6 v7 wr => ∃ k : Nat, k ≤ 128 ∧ v7 = .int .i64 ((k : Int) - 1) ∧ v6 = .int .i64 ((n / 2 ^ k % 10 : Nat) : Int) ∧ Blk wr w1.heap.size 61 (fv (bf n)) ∧ Blk wr (w1.heap.size + 1) 61 (fv (tenF n k)) ∧
      Blk wr (w.heap.size + 1) 25 #[.int .u64 0, .int .u64 0] ∧ Below w.heap.size w wr) (fun _ v7 _ => (intOf v7 + 1).toNat)
  case atStart =>
    refine ⟨128, by omega, by go_num, ?_, ?_, ?_, ?_, ?_⟩
    · rw [Nat.div_eq_of_lt HN.out]; rfl
    · exact Blk.alloc ((Blk.newAt rfl).setRow _) _
    · refine Blk.congr_ (f := fun _ => 0) ?_ (fun i _ => ?_)
      · exact Blk.newAt (by simp)
      · unfold tenF
        split
        · next h => have := HN.out; unfold bf; rw [bt_high (k := 128) (by omega) h]; rfl
        · rfl
    · refine Blk.alloc (Blk.farRow (Blk.alloc ?_ _) (by omega) _) _
      exact Blk.below (Blk.newAt (by simp)) hb1 (by simp)
    · refine Below.alloc (below_setRow (Below.alloc ?_ (by omega) _) (by omega) _) (by simp; omega) _
      exact Below.step (by (repeat (first | exact Below.refl _ _ | refine Below.drew ?_ | refine below_drewN' ?_ | refine Below.alloc ?_ (by simp; try omega) _ | refine Below.setCell ?_ (by simp; try omega) _))) hb1 (by simp; omega)
  case round =>
    clear hb1 hbits
    obtain ⟨k1, hk, rfl, rfl, q4, q5, q2, hB⟩ := hrel
    rcases k1 with _ | k
    · rw [show (((0 : Nat) : Int) - 1) = -1 from rfl]
      have hof := fun W => Lib.hid (of_n (n / 10) W)
      rw [Nat.mod_eq_of_lt (show n / 10 < 2 ^ 128 by have := HN.out; omega)] at hof
      rw [Nat.pow_zero, Nat.div_one]
      have e0 : fv (tenF n 0) = fv (bf (n / 10)) := fv_congr fun i _ => by unfold tenF; rw [if_pos (by omega)]
      rw [e0] at q5
      clear e0
      go_wp2_with (first
        | (refine wpList_load_row rfl 61 _ rfl (w1.heap.size + 1) rfl 61 _ (0, 0) _ (q5) Try.underlying61 rfl (size_row _) ?_)
        | (go_at_call 50; (with_reducible refine (hof _).out.mono ?_); rintro e w3 ⟨rfl, hb3⟩; replace q2 := q2.below hb3 q2.lt; have z0 : w3.cell? ⟨w.heap.size + 1, 0, none⟩ = some (.int .u64 0) := q2.cell 0; have z1 : w3.cell? ⟨w.heap.size + 1, 1, none⟩ = some (.int .u64 0) := q2.cell 1; have y0 := q2.frozen 0; have y1 := q2.frozen 1; have l4 := q2.lt))
      have hs := hB.size
      refine bodyPost_ret (v := .tuple #[wd (n / 10 : Nat), .int .i64 ((n % 10 : Nat) : Int)]) (by simp [results, Try.results51, go_sem, *]) rfl ⟨rfl, ?_⟩
      exact ((Below.step hB hb3 hs).setCell (by simp) _).setCell (by simp) _
    · rw [show (((k + 1 : Nat) : Int) - 1) = (k : Int) by omega]
      obtain ⟨h1, h2⟩ := ten_step n k
      obtain ⟨r, hr⟩ : ∃ r, n / 2 ^ (k + 1) % 10 = r := ⟨_, rfl⟩
      obtain ⟨b, hb⟩ : ∃ b, bt n k = b := ⟨_, rfl⟩
      have hb9 := bt_le n k
      have hr9 : r < 10 := by rw [← hr]; exact Nat.mod_lt _ (by omega)
      rw [hb] at hb9
      rw [hr, hb] at h1 h2
      have f1 := (q4.cell k).trans (fv_get _ (by omega))
      rw [bf, hb] at f1
      have f2 := (q5.cell k).trans (fv_get _ (by omega))
      have g2 := q5.frozen k
      have l1 := q4.lt
      have l2 := q5.lt
      have H1 := Lib.hid h1
      have H2 := Lib.hid h2
      have hnext := Lib.hid (ten_next n k)
      rw [hr]
      clear hr hb h1 h2
      by_cases hten : 10 ≤ 2 * r + b
      · go_wp2
        go_roundw
        case rel =>
          have hs := hB.size
          have e1 : (2 * (r : Int) + b - 10) = (((2 * r + b) % 10 : Nat) : Int) := by omega
          refine ⟨k, by omega, rfl, by rw [e1, H2.out], q4.far (by simp) _, ?_, q2.far (by simp; omega) _, hB.setCell (by simp; omega) _⟩
          have h2 := q5.set_ k (.int .i64 1)
          rw [fv_set _ (by omega)] at h2
          refine h2.congr_ (fun i _ => ?_)
          rw [hnext.out, bf, H1.out, show (2 * r + b) / 10 = 1 by omega]
          rfl
        case measure => simp [intOf]
      · go_wp2
        go_roundw
        case rel =>
          have e1 : (2 * (r : Int) + b) = (((2 * r + b) % 10 : Nat) : Int) := by omega
          refine ⟨k, by omega, rfl, by rw [e1, H2.out], q4, ?_, q2, hB⟩
          refine q5.congr_ (fun i _ => ?_)
          rw [hnext.out]
          split
          · next e =>
            subst e
            rw [bf, H1.out, show (2 * r + b) / 10 = 0 by omega, tenF, if_neg (by omega)]; rfl
          · rfl
        case measure => simp [intOf]
end Go.Proofs.Ythlhmijgbjcloaa
