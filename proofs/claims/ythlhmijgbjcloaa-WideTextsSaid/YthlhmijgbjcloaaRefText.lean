/- The walk of gazetteerref07's Text: a number in digits. -/
import Derived.Test.YthlhmijgbjcloaaTenth
import Derived.Test.YthlhmijgbjcloaaText
import Derived.Test.YthlhmijgbjcloaaEq
namespace Go.Proofs.Ythlhmijgbjcloaa
set_option linter.unusedVariables false
set_option linter.unusedSimpArgs false
open Go.RowKit

/-- "0123456789" as the program holds it. -/
def digs : ByteArray := { data := #[48, 49, 50, 51, 52, 53, 54, 55, 56, 57] }

theorem strOfNums_app (a b : List Int) : strOfNums a ++ strOfNums b = strOfNums (a ++ b) := by
  apply ByteArray.ext
  simp [strOfNums]
theorem dig_ex (d : Nat) (h : d < 10) : ({ data := #[48, 49, 50, 51, 52, 53, 54, 55, 56, 57] } : ByteArray).extract d (d + 1) = strOfNums [((48 + d : Nat) : Int)] := by
  have : d = 0 ∨ d = 1 ∨ d = 2 ∨ d = 3 ∨ d = 4 ∨ d = 5 ∨ d = 6 ∨ d = 7 ∨ d = 8 ∨ d = 9 := by omega
  rcases this with rfl | rfl | rfl | rfl | rfl | rfl | rfl | rfl | rfl | rfl <;> decide +kernel
theorem decI_small {m : Nat} (h : m / 10 = 0) : decI m = [((48 + m % 10 : Nat) : Int)] := by
  unfold decI
  rw [dl_small (by omega), Nat.mod_eq_of_lt (by omega)]; rfl
theorem decI_big {m : Nat} (h : m / 10 ≠ 0) : decI m = decI (m / 10) ++ [((48 + m % 10 : Nat) : Int)] := by
  unfold decI
  rw [dl_big (by omega)]
  simp
set_option maxHeartbeats 1000000 in
set_option maxRecDepth 100000 in
theorem reftext_n (n : Nat) (hn : n < 2 ^ 128) (w : World) :
    Calls Try.prog 19 #[wd n] w fun e w' => e = .returned (.string (decS n)) ∧ Below w.heap.size w w' := by
  have HN := Lib.hid hn
  clear hn
  go_enter Try.func19, Try.ntmps19
  go_wp2
  go_loopw [3, 5] (fun v3 v5 wr => ∃ (r m : Nat) (l : List Int) (s : ByteArray), v5 = .int .i64 (r : Int) ∧ v3 = .string s ∧ Hid (s = strOfNums l ∧ l.length = r ∧ r < 39 ∧ m < 10 ^ (39 - r) ∧ decI m ++ l = decI n ∧ m < 2 ^ 128) ∧
      Blk wr w.heap.size 25 #[.int .u64 (hi64 (m : Int)), .int .u64 (lo64 (m : Int))] ∧ Blk wr (w.heap.size + 1) 25 #[.int .u64 0, .int .u64 0] ∧ Below w.heap.size w wr) (fun _ v5 _ => 40 - (intOf v5).toNat)
  case atStart =>
    have q0 : Blk ((w.alloc (.cells #[.int .u64 (hi64 (n : Int)), .int .u64 (lo64 (n : Int))] 25)).alloc (.cells #[.int .u64 0, .int .u64 0] 25)) w.heap.size 25 _ := Blk.alloc (Blk.newAt rfl) _
    have q1 : Blk ((w.alloc (.cells #[.int .u64 (hi64 (n : Int)), .int .u64 (lo64 (n : Int))] 25)).alloc (.cells #[.int .u64 0, .int .u64 0] 25)) (w.heap.size + 1) 25 _ := Blk.newAt (by simp)
    exact ⟨0, n, [], _, by go_num, rfl, ⟨rfl, rfl, by omega, by have := HN.out; omega, by simp, HN.out⟩, q0, q1, by (repeat (first | exact Below.refl _ _ | refine Below.drew ?_ | refine below_drewN' ?_ | refine Below.alloc ?_ (by simp; try omega) _ | refine Below.setCell ?_ (by simp; try omega) _))⟩
  case round =>
    obtain ⟨r, m, l, s, rfl, rfl, HM, q0, q1, hB⟩ := hrel
    have c0 : wr.cell? ⟨w.heap.size, 0, none⟩ = some (.int .u64 (hi64 (m : Int))) := q0.cell 0
    have c1 : wr.cell? ⟨w.heap.size, 1, none⟩ = some (.int .u64 (lo64 (m : Int))) := q0.cell 1
    have d0 := q0.frozen 0
    have d1 := q0.frozen 1
    have z0 : wr.cell? ⟨w.heap.size + 1, 0, none⟩ = some (.int .u64 0) := q1.cell 0
    have z1 : wr.cell? ⟨w.heap.size + 1, 1, none⟩ = some (.int .u64 0) := q1.cell 1
    have hm : m < 2 ^ 128 := HM.out.2.2.2.2.2
    have hr := HM.out.2.2.1
    have hten := fun W => Lib.hid (tenth_n m hm W)
    obtain ⟨t, ht⟩ : ∃ t, m / 10 = t := ⟨_, rfl⟩
    obtain ⟨d, hd⟩ : ∃ d, m % 10 = d := ⟨_, rfl⟩
    rw [ht, hd] at hten
    have hd9 : d < 10 := by rw [← hd]; exact Nat.mod_lt _ (by omega)
    have HT := Lib.hid ht
    have HD := Lib.hid hd
    obtain ⟨X, hX⟩ : ∃ X, ({ data := #[48, 49, 50, 51, 52, 53, 54, 55, 56, 57] } : ByteArray).extract d (d + 1) = X := ⟨_, rfl⟩
    have HX := Lib.hid hX
    have hlen : ¬ (9223372036854775807 < X.size + s.size) := by
      rw [← hX, dig_ex d hd9, HM.out.1, strOfNums_size, strOfNums_size, HM.out.2.1]
      simp; omega
    clear ht hd hm
    have l0 := lt_cell c0
    have l1 := lt_cell z0
    by_cases ht0 : t = 0
    · subst ht0
      have heq : ∀ W, (binOp .eql 25 (.agg #[.int .u64 0, .int .u64 0]) (.agg #[.int .u64 0, .int .u64 0])).run Try.prog W = .ok (.bool true) W := fun W => by rw [eql25]; simp
      go_wp2_with (go_at_call 51; (with_reducible refine (hten _).out.mono ?_); rintro e w2 ⟨rfl, hb2⟩; replace d0 := ((bcell hb2).2 _ 0 l0).trans d0; replace d1 := ((bcell hb2).2 _ 1 l0).trans d1; replace c0 := keep_cell hb2 c0; replace c1 := keep_cell hb2 c1; replace z0 := keep_cell hb2 z0; replace z1 := keep_cell hb2 z1; replace hB := keep_below hB hb2; have lc0 := lt_cell c0; have lz0 := lt_cell z0)
      refine bodyPost_ret (v := .string (decS n)) (by
        have hfin : X ++ s = decS n := by
          obtain ⟨h1, h2, h3, h4, h5, _⟩ := HM.out
          rw [← HX.out, dig_ex d hd9, h1, strOfNums_app, decS_eq, ← h5, decI_small HT.out, HD.out]
        simp [results, Try.results19, go_sem, hfin]) rfl ⟨rfl, ?_⟩
      exact ((hB.setCell (by simp) _).setCell (by simp) _).alloc (by have := hB.size; simp; omega) _
    · have heq : ∀ W, (binOp .eql 25 (wd t) (.agg #[.int .u64 0, .int .u64 0])).run Try.prog W = .ok (.bool false) W := fun W => by
        have hne : (hi64 (t : Int) == 0 && lo64 (t : Int) == 0) = false := by
          unfold hi64 lo64
          simp only [Bool.and_eq_false_iff, beq_eq_false_iff_ne, ne_eq]
          omega
        rw [eql25, hne]
      have hrt : r < 38 := by
        obtain ⟨h1, h2, h3, h4, h5, _⟩ := HM.out
        rcases Nat.lt_or_ge r 38 with h | h
        · exact h
        · obtain rfl : r = 38 := by omega
          have := HT.out
          simp at h4
          omega
      go_wp2_with (go_at_call 51; (with_reducible refine (hten _).out.mono ?_); rintro e w2 ⟨rfl, hb2⟩; replace d0 := ((bcell hb2).2 _ 0 l0).trans d0; replace d1 := ((bcell hb2).2 _ 1 l0).trans d1; replace c0 := keep_cell hb2 c0; replace c1 := keep_cell hb2 c1; replace z0 := keep_cell hb2 z0; replace z1 := keep_cell hb2 z1; replace hB := keep_below hB hb2; have lc0 := lt_cell c0; have lz0 := lt_cell z0)
      go_roundw
      case rel =>
        obtain ⟨h1, h2, h3, h4, h5, h6⟩ := HM.out
        have hte := HT.out
        have hde := HD.out
        refine ⟨r + 1, t, (48 + d : Nat) :: l, _, by go_num, rfl, ⟨?_, by simp [h2], by omega, ?_, ?_, by omega⟩, ?_, ?_, ?_⟩
        · rw [← HX.out, dig_ex d hd9, h1, strOfNums_app]; rfl
        · have : (10 : Nat) ^ (39 - r) = 10 ^ (39 - (r + 1)) * 10 := by rw [← Nat.pow_succ]; congr 1; omega
          rw [← hte]
          omega
        · rw [← h5, decI_big (m := m) (by omega), hte, hde]; simp
        · exact Blk.alloc (Blk.wide_set1 (Blk.wide_set0 (q0.below hb2 q0.lt) _) _) _
        · exact Blk.alloc (Blk.far (Blk.far (q1.below hb2 q1.lt) (by simp) _) (by simp) _) _
        · exact ((hB.setCell (by simp) _).setCell (by simp) _).alloc (by have := hB.size; simp; omega) _
      case measure => simp [intOf]; omega
end Go.Proofs.Ythlhmijgbjcloaa
