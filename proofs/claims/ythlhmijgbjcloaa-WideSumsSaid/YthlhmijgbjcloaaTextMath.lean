/- Decimal digits, the lowest first: what doubling a row of digits comes to; no program in sight. -/
import Derived.Laws.BytesArg
import Derived.WalkKit
namespace Go.Proofs.Ythlhmijgbjcloaa
set_option linter.unusedVariables false
set_option linter.unusedSimpArgs false
open Go.RowKit

/-- The digits of a number, the lowest first. -/
def dl (v : Nat) : List Nat := if v < 10 then [v] else (v % 10) :: dl (v / 10)
theorem dl_small {v : Nat} (h : v < 10) : dl v = [v] := by rw [dl, if_pos h]
theorem dl_big {v : Nat} (h : ¬ v < 10) : dl v = (v % 10) :: dl (v / 10) := by rw [dl, if_neg h]
theorem dl_lt (v : Nat) : ∀ d ∈ dl v, d < 10 := by
  induction v using Nat.strongRecOn with
  | _ v ih =>
    intro d hd
    by_cases h : v < 10
    · rw [dl_small h] at hd; simp at hd; omega
    · rw [dl_big h] at hd
      rcases List.mem_cons.1 hd with rfl | hd
      · omega
      · exact ih (v / 10) (by omega) d hd
def dstep (s : List Nat × Nat) (d : Nat) : List Nat × Nat := (s.1 ++ [(2 * d + s.2) % 10], (2 * d + s.2) / 10)
def dbl (l : List Nat) (c : Nat) : List Nat × Nat := l.foldl dstep ([], c)
theorem dbl_nil (c : Nat) : dbl [] c = ([], c) := rfl
theorem dbl_snoc (l : List Nat) (d c : Nat) : dbl (l ++ [d]) c = ((dbl l c).1 ++ [(2 * d + (dbl l c).2) % 10], (2 * d + (dbl l c).2) / 10) := by
  unfold dbl; rw [List.foldl_append]; rfl
theorem dbl_acc (l : List Nat) : ∀ (a : List Nat) (c : Nat), l.foldl dstep (a, c) = (a ++ (dbl l c).1, (dbl l c).2) := by
  induction l with
  | nil => intro a c; simp [dbl]
  | cons d l ih =>
    intro a c
    show l.foldl dstep (a ++ [(2 * d + c) % 10], (2 * d + c) / 10) = _
    rw [ih]
    have : dbl (d :: l) c = l.foldl dstep ([(2 * d + c) % 10], (2 * d + c) / 10) := rfl
    rw [this, ih]
    simp
theorem dbl_cons (d : Nat) (l : List Nat) (c : Nat) : dbl (d :: l) c = ((2 * d + c) % 10 :: (dbl l ((2 * d + c) / 10)).1, (dbl l ((2 * d + c) / 10)).2) := by
  show l.foldl dstep ([(2 * d + c) % 10], (2 * d + c) / 10) = _
  rw [dbl_acc]; rfl
theorem dbl_len (l : List Nat) : ∀ c, (dbl l c).1.length = l.length := by
  induction l with
  | nil => intro c; rfl
  | cons d l ih => intro c; rw [dbl_cons]; simp [ih]
theorem dbl_carry (l : List Nat) : ∀ c, c ≤ 1 → (∀ d ∈ l, d < 10) → (dbl l c).2 ≤ 1 := by
  induction l with
  | nil => intro c h _; exact h
  | cons d l ih =>
    intro c h hl
    rw [dbl_cons]
    have := hl d (by simp)
    exact ih _ (by omega) (fun x hx => hl x (by simp [hx]))
/-- A row of digits, doubled, and the carry behind it. -/
def dblAll (l : List Nat) (c : Nat) : List Nat := if (dbl l c).2 = 0 then (dbl l c).1 else (dbl l c).1 ++ [(dbl l c).2]
theorem dblAll_dl (v : Nat) : ∀ c, c ≤ 1 → dblAll (dl v) c = dl (2 * v + c) := by
  induction v using Nat.strongRecOn with
  | _ v ih =>
    intro c hc
    by_cases h : v < 10
    · rw [dl_small h]
      unfold dblAll
      rw [dbl_cons, dbl_nil]
      dsimp only
      by_cases h2 : (2 * v + c) / 10 = 0
      · rw [if_pos h2, dl_small (by omega)]; congr 1; omega
      · rw [if_neg h2, dl_big (by omega), dl_small (by omega)]; rfl
    · rw [dl_big h, dl_big (v := 2 * v + c) (by omega)]
      have := ih (v / 10) (by omega) ((2 * (v % 10) + c) / 10) (by omega)
      rw [show (2 * v + c) / 10 = 2 * (v / 10) + (2 * (v % 10) + c) / 10 by omega, ← this]
      unfold dblAll
      rw [dbl_cons]
      dsimp only
      rw [show (2 * v + c) % 10 = (2 * (v % 10) + c) % 10 by omega]
      split <;> simp
theorem dblAll_len (l : List Nat) (c : Nat) : (dblAll l c).length ≤ l.length + 1 := by
  unfold dblAll; split <;> simp [dbl_len]
/-- A row of digits as the bytes' cells. -/
def dcells (l : List Nat) : List Value := l.map fun d : Nat => .int .u8 (d : Int)
theorem dbl_row (L : List Nat) (c j d e : Nat) (hd : L[j]? = some d) (hE : (dbl (L.take j) c).2 = e) :
    (dbl (L.take (j + 1)) c).2 = (2 * d + e) / 10 ∧ (dcells ((dbl (L.take j) c).1 ++ L.drop j)).set j (.int .u8 (((2 * d + e) % 10 : Nat) : Int)) = dcells ((dbl (L.take (j + 1)) c).1 ++ L.drop (j + 1)) := by
  obtain ⟨hj, hd'⟩ := List.getElem?_eq_some_iff.1 hd
  have ht : L.take (j + 1) = L.take j ++ [d] := by rw [List.take_add_one, hd]; rfl
  rw [ht, dbl_snoc, hE]
  refine ⟨rfl, ?_⟩
  have hl : (dbl (L.take j) c).1.length = j := by rw [dbl_len, List.length_take]; omega
  unfold dcells
  rw [List.drop_eq_getElem_cons hj, hd', List.map_append, List.map_append, List.set_append, if_neg (by simp [hl])]
  simp [hl]
/-- A number in digits. -/
def decS (v : Nat) : ByteArray := strOfNums ((dl v).reverse.map fun d : Nat => ((48 + d : Nat) : Int))
theorem decS_two64 : decS 18446744073709551616 = { data := #[49, 56, 52, 52, 54, 55, 52, 52, 48, 55, 51, 55, 48, 57, 53, 53, 49, 54, 49, 54] } := by
  have h : dl 18446744073709551616 = [6, 1, 6, 1, 5, 5, 9, 0, 7, 3, 7, 0, 4, 4, 7, 6, 4, 4, 8, 1] := by
    repeat (first | rw [dl_small (by omega)] | rw [dl_big (by omega)])
  unfold decS
  rw [h]
  rfl
theorem rev_take (L : List Nat) (p d : Nat) (hd : L[p]? = some d) : L.reverse.take (L.length - p) = L.reverse.take (L.length - (p + 1)) ++ [d] := by
  obtain ⟨hp, hd'⟩ := List.getElem?_eq_some_iff.1 hd
  have e : L.length - p = (L.length - (p + 1)) + 1 := by omega
  rw [e, List.take_add_one, List.getElem?_reverse (by omega), show L.length - 1 - (L.length - (p + 1)) = p by omega, hd]
  rfl
def decI (v : Nat) : List Int := (dl v).reverse.map fun d : Nat => ((48 + d : Nat) : Int)
theorem decS_eq (v : Nat) : decS v = strOfNums (decI v) := rfl
/-- The k highest of 128 bits. -/
def topBits (n k : Nat) : Nat := n / 2 ^ (128 - k)
/-- Bit number i of a number, as the program takes it out of one of the two halves. -/
def bitAt (h i : Nat) : Nat := h / 2 ^ i % 2
theorem topBits_zero {n : Nat} (h : n < 2 ^ 128) : topBits n 0 = 0 := by unfold topBits; exact Nat.div_eq_of_lt h
theorem topBits_all (n : Nat) : topBits n 128 = n := by unfold topBits; simp
theorem bit_next (n k : Nat) (hk : k < 128) : topBits n (k + 1) = 2 * topBits n k + n / 2 ^ (127 - k) % 2 := by
  unfold topBits
  have e : 128 - k = (127 - k) + 1 := by omega
  rw [e, Nat.pow_succ, ← Nat.div_div_eq_div_mul, show 128 - (k + 1) = 127 - k by omega]
  omega
theorem bit_hi (hi lo k : Nat) (hl : lo < 2 ^ 64) (hk : k < 64) : topBits (hi * 2 ^ 64 + lo) (k + 1) = 2 * topBits (hi * 2 ^ 64 + lo) k + bitAt hi (63 - k) := by
  rw [bit_next _ _ (by omega)]
  unfold bitAt
  have e : 127 - k = 64 + (63 - k) := by omega
  rw [e, Nat.pow_add, ← Nat.div_div_eq_div_mul, show (hi * 2 ^ 64 + lo) / 2 ^ 64 = hi by omega]
theorem bit_lo (hi lo k : Nat) (hk : 64 ≤ k) (hk2 : k < 128) : topBits (hi * 2 ^ 64 + lo) (k + 1) = 2 * topBits (hi * 2 ^ 64 + lo) k + bitAt lo (63 - (k - 64)) := by
  rw [bit_next _ _ hk2]
  unfold bitAt
  have e : 127 - k = 63 - (k - 64) := by omega
  rw [e]
  have key : ∀ P q : Nat, 0 < P → (P * (q * 2) + lo) / P % 2 = lo / P % 2 := fun P q hP => by
    rw [Nat.add_comm, Nat.mul_comm P, Nat.add_mul_div_right _ _ hP]; omega
  have e2 : hi * 2 ^ 64 = 2 ^ (63 - (k - 64)) * (hi * 2 ^ (k - 64) * 2) := by
    have : 2 ^ 64 = 2 ^ (63 - (k - 64)) * 2 ^ (k - 64) * 2 := by
      rw [← Nat.pow_add, ← Nat.pow_succ]; congr 1; omega
    rw [this, Nat.mul_assoc, Nat.mul_left_comm, Nat.mul_assoc]
  have e3 := key (2 ^ (63 - (k - 64))) (hi * 2 ^ (k - 64)) (Nat.pos_of_ne_zero (by simp))
  rw [← e2] at e3
  rw [e3]
theorem bit_any (hi lo n k : Nat) (hn : n = hi * 2 ^ 64 + lo) (hl : lo < 2 ^ 64) (hk : k < 128) : topBits n (k + 1) = 2 * topBits n k + bitAt (if k < 64 then hi else lo) (63 - k % 64) := by
  subst hn
  by_cases h : k < 64
  · rw [if_pos h, bit_hi hi lo k hl h, Nat.mod_eq_of_lt h]
  · rw [if_neg h, bit_lo hi lo k (by omega) hk, show k % 64 = k - 64 by omega]
theorem bitAt_le (h i : Nat) : bitAt h i ≤ 1 := by unfold bitAt; omega
end Go.Proofs.Ythlhmijgbjcloaa
