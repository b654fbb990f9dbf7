/- What the row of this claim reaches. No condition. -/
import Derived.Laws.BitsAllLaws
import Derived.Laws.BitsLemmas
import Derived.WalkKit
set_option linter.unusedVariables false
set_option linter.unusedSimpArgs false
namespace Go.Proofs.Ythlhmijgbjcloaa
open Go.RowKit
theorem wrap_sub_u64 (a b : Int) : IntKind.u64.wrap (IntKind.u64.wrap a - IntKind.u64.wrap b) = IntKind.u64.wrap (a - b):=by
 simp only [IntKind.wrap_u64,Int.emod_sub_emod,Int.sub_emod_emod]
def addS (a b c : Int) : Int:=IntKind.u64.wrap (IntKind.u64.wrap (a+b)+c)
def addC (a b c : Int) : Int:=(if IntKind.u64.wrap (a+b) < a then 1 else 0)+(if addS a b c < c then 1 else 0)
def cmpI (ah al bh bl : Int) : Int:=if ah = bh∧al = bl then 0 else if ah < bh∨(ah = bh∧al < bl) then -1 else 1
def widthI (lo hi : Int) : Int:=if hi < lo then 0 else IntKind.u64.wrap (hi - lo)
def subHi (ah al bh bl : Int) : Int:=if al < bl then IntKind.u64.wrap (IntKind.u64.wrap (ah - bh) - 1) else IntKind.u64.wrap (ah - bh)
def isU (a : Int) : Prop:=0 ≤ a∧a < 18446744073709551616
def isI (a : Int) : Prop:=-9223372036854775808 ≤ a∧a ≤ 9223372036854775807
theorem add_spec {a b c : Int} (ha : isU a) (hb : isU b) (hc : isU c) : addC a b c * 18446744073709551616+addS a b c = a+b+c∧isU (addS a b c)∧0 ≤ addC a b c∧addC a b c ≤ 2:=by
 unfold isU at *
 unfold addC addS
 simp only [IntKind.wrap_u64]
 split <;> split <;> omega
theorem wrapU_isU (a : Int) : isU (IntKind.u64.wrap a):=by unfold isU;simp only [IntKind.wrap_u64];omega
theorem u64_mask32 {a : Int} (ha : isU a) : bits .and .u64 a 4294967295 = a % 4294967296 :=
 bits_mask .u64 64 (by decide) (fun n h0 h1 => by rw [IntKind.wrap_u64];omega) 32 (by decide) a ha.1 ha.2
theorem u64_join32 {m x : Int} (hm : isU m) (hm0 : m % 4294967296 = 0) (h0 : 0 ≤ x) (h1 : x < 4294967296) : bits .or .u64 m x = m+x :=
 bits_join .u64 64 (by decide) (fun n h0 h1 => by rw [IntKind.wrap_u64];omega) 32 m x hm.1 hm0 hm.2 h0 h1 (by omega)
theorem mul_bd {x y : Int} (h0 : 0 ≤ x) (h1 : x < 4294967296) (g0 : 0 ≤ y) (g1 : y < 4294967296) : 0 ≤ x * y∧x * y ≤ 18446744065119617025:=by
 refine ⟨Int.mul_nonneg h0 g0,?_⟩
 have : x * y ≤ 4294967295 * 4294967295:=Int.mul_le_mul (by omega) (by omega) g0 (by omega)
 omega
theorem mul_split (a b : Int) : a * b = (a / 4294967296 * (b / 4294967296)) * 18446744073709551616+(a / 4294967296 * (b % 4294967296)+a % 4294967296 * (b / 4294967296)) * 4294967296+a % 4294967296 * (b % 4294967296):=by
 have ha:=Int.mul_ediv_add_emod a 4294967296
 have hb:=Int.mul_ediv_add_emod b 4294967296
 generalize a / 4294967296 = a1 at *
 generalize a % 4294967296 = a0 at *
 generalize b / 4294967296 = b1 at *
 generalize b % 4294967296 = b0 at *
 subst ha;subst hb
 simp only [Int.add_mul,Int.mul_add]
 have e1 : 4294967296 * a1 * (4294967296 * b1) = a1 * b1 * 18446744073709551616:=by
  rw [Int.mul_comm 4294967296 a1,Int.mul_assoc,← Int.mul_assoc 4294967296 4294967296 b1,Int.mul_comm (4294967296 * 4294967296) b1,← Int.mul_assoc]
  rfl
 have e2 : 4294967296 * a1 * b0 = a1 * b0 * 4294967296:=by rw [Int.mul_assoc,Int.mul_comm]
 have e3 : a0 * (4294967296 * b1) = a0 * b1 * 4294967296:=by rw [Int.mul_comm 4294967296 b1,Int.mul_assoc]
 rw [e1,e2,e3]
 omega
theorem mul_halves {a b : Int} (ha : isU a) (hb : isU b) :
  IntKind.u64.wrap
   (IntKind.u64.wrap
     (IntKind.u64.wrap (a / 4294967296 * (b / 4294967296)) +
      addS (IntKind.u64.wrap (a / 4294967296 * bits BinOp.and IntKind.u64 b 4294967295))
        (IntKind.u64.wrap (bits BinOp.and IntKind.u64 a 4294967295 * (b / 4294967296)))
        (IntKind.u64.wrap (bits BinOp.and IntKind.u64 a 4294967295 * bits BinOp.and IntKind.u64 b 4294967295) /
         4294967296) /
       4294967296) +
    IntKind.u64.wrap
     (addC (IntKind.u64.wrap (a / 4294967296 * bits BinOp.and IntKind.u64 b 4294967295))
       (IntKind.u64.wrap (bits BinOp.and IntKind.u64 a 4294967295 * (b / 4294967296)))
       (IntKind.u64.wrap (bits BinOp.and IntKind.u64 a 4294967295 * bits BinOp.and IntKind.u64 b 4294967295) /
        4294967296) *
      4294967296)) =
  a * b / 18446744073709551616 ∧
 bits BinOp.or IntKind.u64
   (IntKind.u64.wrap
    (addS (IntKind.u64.wrap (a / 4294967296 * bits BinOp.and IntKind.u64 b 4294967295))
      (IntKind.u64.wrap (bits BinOp.and IntKind.u64 a 4294967295 * (b / 4294967296)))
      (IntKind.u64.wrap (bits BinOp.and IntKind.u64 a 4294967295 * bits BinOp.and IntKind.u64 b 4294967295) /
       4294967296) *
     4294967296))
   (bits BinOp.and IntKind.u64
    (IntKind.u64.wrap (bits BinOp.and IntKind.u64 a 4294967295 * bits BinOp.and IntKind.u64 b 4294967295))
    4294967295) =
  a * b % 18446744073709551616:=by
 have hs:=mul_split a b
 rw [u64_mask32 (wrapU_isU _),u64_mask32 ha,u64_mask32 hb]
 unfold isU at ha hb
 have b1:=mul_bd (x:=a / 4294967296) (y:=b / 4294967296) (by omega) (by omega) (by omega) (by omega)
 have b2:=mul_bd (x:=a / 4294967296) (y:=b % 4294967296) (by omega) (by omega) (by omega) (by omega)
 have b3:=mul_bd (x:=a % 4294967296) (y:=b / 4294967296) (by omega) (by omega) (by omega) (by omega)
 have b4:=mul_bd (x:=a % 4294967296) (y:=b % 4294967296) (by omega) (by omega) (by omega) (by omega)
 generalize a / 4294967296 * (b / 4294967296) = p11 at *
 generalize a / 4294967296 * (b % 4294967296) = p10 at *
 generalize a % 4294967296 * (b / 4294967296) = p01 at *
 generalize a % 4294967296 * (b % 4294967296) = p00 at *
 have w1 : IntKind.u64.wrap p11 = p11:=by rw [IntKind.wrap_u64];omega
 have w2 : IntKind.u64.wrap p10 = p10:=by rw [IntKind.wrap_u64];omega
 have w3 : IntKind.u64.wrap p01 = p01:=by rw [IntKind.wrap_u64];omega
 have w4 : IntKind.u64.wrap p00 = p00:=by rw [IntKind.wrap_u64];omega
 rw [w1,w2,w3,w4]
 obtain ⟨h1,h2,h3,h4⟩:=add_spec (a:=p10) (b:=p01) (c:=p00 / 4294967296) ⟨by omega,by omega⟩ ⟨by omega,by omega⟩ ⟨by omega,by omega⟩
 generalize addS p10 p01 (p00 / 4294967296) = s at *
 generalize addC p10 p01 (p00 / 4294967296) = c at *
 unfold isU at h2
 refine ⟨?_,?_⟩
 ·rw [hs]
  simp only [IntKind.wrap_u64]
  omega
 ·rw [u64_join32 (wrapU_isU _) (by rw [IntKind.wrap_u64];omega) (by omega) (by omega),hs,IntKind.wrap_u64]
  omega
def hi64 (n : Int) : Int:=n / 18446744073709551616
def lo64 (n : Int) : Int:=n % 18446744073709551616
def in128 (n : Int) : Prop:=0 ≤ n∧n < 340282366920938463463374607431768211456
def m128 (n : Int) : Int:=n % 340282366920938463463374607431768211456
def lt128 (n : Int) : Bool:=decide (n < 340282366920938463463374607431768211456)
def cmpN (m n : Int) : Int:=if m = n then 0 else if m < n then -1 else 1
theorem m128_in (n : Int) : in128 (m128 n):=by unfold in128 m128;omega
theorem hi_isU {n : Int} (h : in128 n) : isU (hi64 n):=by unfold in128 at h;unfold isU hi64;omega
theorem lo_isU (n : Int) : isU (lo64 n):=by unfold isU lo64;omega
theorem cmp_val (m n : Int) : cmpI (hi64 m) (lo64 m) (hi64 n) (lo64 n) = cmpN m n:=by
 unfold cmpI cmpN hi64 lo64
 by_cases h : m = n
 ·subst h;simp
 ·by_cases h2 : m < n
  ·rw [if_neg (by omega),if_pos (by omega),if_neg h,if_pos h2]
  ·rw [if_neg (by omega),if_neg (by omega),if_neg h,if_neg h2]
theorem add_val {m n : Int} (hm : in128 m) (hn : in128 n) : addS (hi64 m) (hi64 n) (addC (lo64 m) (lo64 n) 0) = hi64 (m128 (m+n))∧addS (lo64 m) (lo64 n) 0 = lo64 (m128 (m+n))∧(addC (hi64 m) (hi64 n) (addC (lo64 m) (lo64 n) 0) == 0) = lt128 (m+n):=by
 obtain ⟨a1,a2,a3,a4⟩:=add_spec (lo_isU m) (lo_isU n) (c:=0) (by unfold isU;omega)
 obtain ⟨b1,b2,b3,b4⟩:=add_spec (hi_isU hm) (hi_isU hn) (c:=addC (lo64 m) (lo64 n) 0) (by unfold isU;omega)
 generalize addC (hi64 m) (hi64 n) (addC (lo64 m) (lo64 n) 0) = c2 at *
 generalize addS (hi64 m) (hi64 n) (addC (lo64 m) (lo64 n) 0) = s2 at *
 generalize addC (lo64 m) (lo64 n) 0 = c1 at *
 generalize addS (lo64 m) (lo64 n) 0 = s1 at *
 unfold in128 at hm hn
 unfold isU at a2 b2
 unfold lt128 m128
 unfold hi64 at *
 unfold lo64 at *
 refine ⟨by omega,by omega,?_⟩
 by_cases h : m+n < 340282366920938463463374607431768211456
 ·rw [show c2 = 0 by omega];simp [h]
 ·have : c2 ≠ 0:=by omega
  simp [h,this]
theorem sub_val {m n : Int} (hm : in128 m) (hn : in128 n) : subHi (hi64 m) (lo64 m) (hi64 n) (lo64 n) = hi64 (m128 (m - n))∧IntKind.u64.wrap (lo64 m - lo64 n) = lo64 (m128 (m - n))∧decide (0 ≤ cmpI (hi64 m) (lo64 m) (hi64 n) (lo64 n)) = decide (n ≤ m):=by
 refine ⟨?_,?_,?_⟩
 ·unfold in128 at hm hn
  unfold subHi hi64 lo64 m128
  simp only [IntKind.wrap_u64]
  split <;> omega
 ·unfold lo64 m128
  simp only [IntKind.wrap_u64]
  omega
 ·rw [cmp_val];unfold cmpN
  by_cases h : m = n
  ·subst h;simp
  ·by_cases h2 : m < n
   ·rw [if_neg h,if_pos h2];simp;omega
   ·rw [if_neg h,if_neg h2];simp;omega
theorem mul_in {a b : Int} (ha : isU a) (hb : isU b) : in128 (a * b):=by
 unfold isU at ha hb
 refine ⟨Int.mul_nonneg ha.1 hb.1,?_⟩
 have : a * b ≤ 18446744073709551615 * 18446744073709551615:=Int.mul_le_mul (by omega) (by omega) hb.1 (by omega)
 omega
theorem width_isU {lo hi : Int} (hl : isI lo) (hh : isI hi) : isU (widthI lo hi):=by
 unfold isI at hl hh
 unfold widthI
 split
 ·unfold isU;omega
 ·exact wrapU_isU _
theorem width_val {lo hi : Int} (hl : isI lo) (hh : isI hi) : widthI lo hi = if hi < lo then 0 else hi - lo:=by
 unfold isI at hl hh
 unfold widthI
 split
 ·rfl
 ·rw [IntKind.wrap_u64];omega
end Go.Proofs.Ythlhmijgbjcloaa
