/- What the row of this claim reaches. No condition. -/
import Derived.Test.YthlhmijgbjcloaaGWideMath
set_option linter.unusedVariables false
set_option linter.unusedSimpArgs false
namespace Go.Proofs.Ythlhmijgbjcloaa
open Go.RowKit
@[irreducible] def fv (f : Nat→Int) : Array Value:=((List.range 260).map fun i => Value.int .i64 (f i)).toArray
theorem fv_size (f : Nat→Int) : (fv f).size = 260:=by simp [fv]
theorem fv_get (f : Nat→Int) {i : Nat} (h : i < 260) : (fv f)[i]? = some (.int .i64 (f i)):=by simp [fv,h]
theorem fv_congr {f g : Nat→Int} (h : ∀ i,i < 260→f i = g i) : fv f = fv g:=by
 unfold fv
 congr 1
 refine List.map_congr_left fun i hi => ?_
 rw [h i (by simpa using hi)]
theorem fv_set (f : Nat→Int) {i : Nat} (h : i < 260) (v : Int) : (fv f).setIfInBounds i (.int .i64 v) = fv fun j => if j = i then v else f j:=by
 apply Array.ext_getElem?
 intro j
 rw [Array.getElem?_setIfInBounds]
 by_cases hj : j < 260
 ·rw [fv_get _ hj,fv_get _ hj]
  by_cases e : i = j
  ·subst e;simp [fv_size,h]
  ·rw [if_neg e,if_neg (fun e' => e e'.symm)]
 ·have e1 : ∀ g,(fv g)[j]? = none:=fun g => by rw [Array.getElem?_eq_none (by rw [fv_size];omega)]
  rw [e1,e1]
  by_cases e : i = j
  ·omega
  ·rw [if_neg e]
theorem fv_one (f : Nat→Int) : (fv f).all (·.oneCell') = true:=by simp [fv,Value.oneCell']
def bt (n i : Nat) : Nat:=n / 2 ^ i % 2
def bf (n : Nat) (i : Nat) : Int:=(bt n i : Int)
theorem bt_le (n i : Nat) : bt n i ≤ 1:=by unfold bt;omega
theorem bt_zero (i : Nat) : bt 0 i = 0:=by unfold bt;simp
theorem bt_high {n i k : Nat} (h : n < 2 ^ k) (hk : k ≤ i) : bt n i = 0:=by
 unfold bt
 rw [Nat.div_eq_of_lt (Nat.lt_of_lt_of_le h (Nat.pow_le_pow_right (by omega) hk))]
theorem bt_mod (n : Nat) {i k : Nat} (h : i < k) : bt (n % 2 ^ k) i = bt n i:=by
 unfold bt
 have e : 2 ^ k = 2 ^ i * (2 * 2 ^ (k - i - 1)):=by rw [← Nat.mul_assoc,← Nat.pow_succ,← Nat.pow_add];congr 1;omega
 rw [e,Nat.mod_mul_right_div_self,Nat.mod_mul_right_mod]
theorem mod_succ (n i : Nat) : n % 2 ^ (i+1) = n % 2 ^ i+2 ^ i * bt n i:=by
 unfold bt
 rw [Nat.pow_succ,Nat.mod_mul]
def cr (m n i : Nat) : Nat:=(m % 2 ^ i+n % 2 ^ i) / 2 ^ i
theorem cr_le (m n i : Nat) : cr m n i ≤ 1:=by
 unfold cr
 have hp : 0 < 2 ^ i:=Nat.pos_of_ne_zero (by simp)
 have h1:=Nat.mod_lt m hp
 have h2:=Nat.mod_lt n hp
 have : (m % 2 ^ i+n % 2 ^ i) / 2 ^ i < 2:=Nat.div_lt_of_lt_mul (by omega)
 omega
theorem sum_bit (m n i : Nat) : bt (m+n) i = (bt m i+bt n i+cr m n i) % 2∧cr m n (i+1) = (bt m i+bt n i+cr m n i) / 2:=by
 have hp : 0 < 2 ^ i:=Nat.pos_of_ne_zero (by simp)
 have hm:=Nat.mod_add_div m (2 ^ i)
 have hn:=Nat.mod_add_div n (2 ^ i)
 have hc:=Nat.mod_add_div (m % 2 ^ i+n % 2 ^ i) (2 ^ i)
 have hr:=Nat.mod_lt (m % 2 ^ i+n % 2 ^ i) hp
 refine ⟨?_,?_⟩
 ·unfold bt cr
  have e : m+n = (m % 2 ^ i+n % 2 ^ i) % 2 ^ i+2 ^ i * (m / 2 ^ i+n / 2 ^ i+(m % 2 ^ i+n % 2 ^ i) / 2 ^ i):=by
   rw [Nat.mul_add,Nat.mul_add];omega
  have e2 : (m+n) / 2 ^ i = m / 2 ^ i+n / 2 ^ i+(m % 2 ^ i+n % 2 ^ i) / 2 ^ i:=by
   conv => lhs;rw [e]
   rw [Nat.add_mul_div_left _ _ hp,Nat.div_eq_of_lt hr];omega
  rw [e2];omega
 ·have e1:=mod_succ m i
  have e2:=mod_succ n i
  have e3 : cr m n (i+1) = (2 ^ i * (bt m i+bt n i)+(m % 2 ^ i+n % 2 ^ i)) / 2 ^ (i+1):=by
   unfold cr;rw [e1,e2,Nat.mul_add];congr 1;omega
  rw [e3,Nat.pow_succ,← Nat.div_div_eq_div_mul,Nat.add_comm,Nat.add_mul_div_left _ _ hp]
  unfold cr
  rw [Nat.add_comm]
theorem bt_shift (n i k : Nat) (h : k ≤ i) : bt (n * 2 ^ k) i = bt n (i - k):=by
 unfold bt
 have e : 2 ^ i = 2 ^ k * 2 ^ (i - k):=by rw [← Nat.pow_add];congr 1;omega
 rw [e,← Nat.div_div_eq_div_mul,Nat.mul_div_cancel _ (Nat.pos_of_ne_zero (by simp))]
theorem cr_shift (m n k : Nat) : cr m (n * 2 ^ k) k = 0:=by
 unfold cr
 have hp : 0 < 2 ^ k:=Nat.pos_of_ne_zero (by simp)
 rw [Nat.mul_mod_left,Nat.add_zero,Nat.div_eq_of_lt (Nat.mod_lt _ hp)]
theorem bt_sum_low (m n i k : Nat) (h : i < k) : bt (m+n * 2 ^ k) i = bt m i:=by
 unfold bt
 have e : n * 2 ^ k = 2 ^ i * (n * 2 ^ (k - i - 1) * 2):=by
  have : 2 ^ k = 2 ^ i * 2 ^ (k - i - 1) * 2:=by rw [← Nat.pow_add,← Nat.pow_succ];congr 1;omega
  rw [this,Nat.mul_assoc,Nat.mul_left_comm,Nat.mul_assoc]
 rw [e,Nat.add_mul_div_left _ _ (Nat.pos_of_ne_zero (by simp))]
 omega
end Go.Proofs.Ythlhmijgbjcloaa
