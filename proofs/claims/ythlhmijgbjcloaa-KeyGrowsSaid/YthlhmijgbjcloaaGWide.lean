/- What the row of this claim reaches. No condition. -/
import Derived.Deep.RegionHeld3
import Derived.Deep.CutBlock
import Derived.Test.YthlhmijgbjcloaaGBase
import Derived.Test.YthlhmijgbjcloaaGWideMath
set_option linter.unusedVariables false
set_option linter.unusedSimpArgs false
namespace Go.Proofs.Ythlhmijgbjcloaa
open Go.RowKit
attribute [local go_sem] wrap_sub_u64
set_option maxHeartbeats 400000 in
theorem add_any (a b c : Int) (w : World) :
  Calls Try.prog 47 #[.int .u64 a,.int .u64 b,.int .u64 c] w fun e w' => e = .returned (.tuple #[.int .u64 (addS a b c),.int .u64 (addC a b c)])∧w = w':=by
 go_enter Try.func47,Try.ntmps47
 go_wp2
 all_goals
  go_ret2
  refine ⟨?_,rfl⟩
  simp [addS,addC, *]
  all_goals omega
set_option maxHeartbeats 400000 in
theorem cmp_any (ah al bh bl : Int) (w : World) :
  Calls Try.prog 20 #[.agg #[.int .u64 ah,.int .u64 al],.agg #[.int .u64 bh,.int .u64 bl]] w fun e w' => e = .returned (.int .i64 (cmpI ah al bh bl))∧Below w.heap.size w w':=by
 by_cases h1 : ah = bh
 ·by_cases h2 : al = bl
  ·subst h1;subst h2
   go_enter Try.func20,Try.ntmps20
   go_wp2
   go_ret
   exact ⟨by simp [cmpI],by (repeat (first|exact Below.refl _ _|refine Below.drew ?_|refine below_drewN' ?_|refine Below.alloc ?_ (by simp;try omega) _|refine Below.setCell ?_ (by simp;try omega) _))⟩
  ·subst h1
   by_cases h3 : al < bl
   all_goals
    go_enter Try.func20,Try.ntmps20
    go_wp2
    go_ret
    exact ⟨by simp [cmpI, *],by (repeat (first|exact Below.refl _ _|refine Below.drew ?_|refine below_drewN' ?_|refine Below.alloc ?_ (by simp;try omega) _|refine Below.setCell ?_ (by simp;try omega) _))⟩
 ·by_cases h3 : ah < bh
  all_goals
   go_enter Try.func20,Try.ntmps20
   go_wp2
   go_ret
   exact ⟨by simp [cmpI, *],by (repeat (first|exact Below.refl _ _|refine Below.drew ?_|refine below_drewN' ?_|refine Below.alloc ?_ (by simp;try omega) _|refine Below.setCell ?_ (by simp;try omega) _))⟩
set_option maxHeartbeats 400000 in
theorem width_any (lo hi : Int) (w : World) :
  Calls Try.prog 22 #[.int .i64 lo,.int .i64 hi] w fun e w' => e = .returned (.int .u64 (widthI lo hi))∧w = w':=by
 go_enter Try.func22,Try.ntmps22
 go_wp2
 all_goals
  go_ret
  refine ⟨?_,rfl⟩
  first
   | (simp [widthI, *];done)
   | (rw [widthI,if_neg (Int.not_lt.mpr (by assumption))];simp)
set_option maxHeartbeats 400000 in
theorem wadd_any (ah al bh bl : Int) (w : World) :
  Calls Try.prog 21 #[.agg #[.int .u64 ah,.int .u64 al],.agg #[.int .u64 bh,.int .u64 bl]] w fun e w' => e = .returned (.tuple #[.agg #[.int .u64 (addS ah bh (addC al bl 0)),.int .u64 (addS al bl 0)],.bool (addC ah bh (addC al bl 0) == 0)])∧Below w.heap.size w w':=by
 go_enter Try.func21,Try.ntmps21
 go_wp2_with (go_at_call 47;(with_reducible refine (add_any _ _ _ _).mono ?_);rintro e w' ⟨rfl,rfl⟩)
 refine bodyPost_ret (v:=.tuple #[.agg #[.int .u64 (addS ah bh (addC al bl 0)),.int .u64 (addS al bl 0)],.bool (addC ah bh (addC al bl 0) == 0)]) (by simp [results,Try.results21,go_sem]) rfl ⟨rfl,?_⟩
 (repeat (first|exact Below.refl _ _|refine Below.drew ?_|refine below_drewN' ?_|refine Below.alloc ?_ (by simp;try omega) _|refine Below.setCell ?_ (by simp;try omega) _))
set_option maxHeartbeats 1000000 in
theorem sub_any (ah al bh bl : Int) (w : World) :
  Calls Try.prog 29 #[.agg #[.int .u64 ah,.int .u64 al],.agg #[.int .u64 bh,.int .u64 bl]] w fun e w' => e = .returned (.tuple #[.agg #[.int .u64 (subHi ah al bh bl),.int .u64 (IntKind.u64.wrap (al - bl))],.bool (decide (0 ≤ cmpI ah al bh bl))])∧Below w.heap.size w w':=by
 by_cases h : al < bl
 all_goals
  have hs:=(by first|exact if_pos h|exact if_neg h : subHi ah al bh bl = _)
  go_enter Try.func29,Try.ntmps29
  go_wp2_with fail
  go_region_held3 (fun w' => w'.cell? ⟨w.heap.size,0,none⟩ = some (.int .u64 ah)∧w'.cell? ⟨w.heap.size,1,none⟩ = some (.int .u64 al)∧w'.cell? ⟨w.heap.size+1,0,none⟩ = some (.int .u64 bh)∧w'.cell? ⟨w.heap.size+1,1,none⟩ = some (.int .u64 bl)∧w'.cell? ⟨w.heap.size+1+1+1,0,none⟩ = some (.int .u64 (subHi ah al bh bl))∧w'.cell? ⟨w.heap.size+1+1+1,1,none⟩ = some (.int .u64 (IntKind.u64.wrap (al - bl)))) ((first|(go_simp;done)|(simp [go_sem, *];done)))
   (first|(go_at_call 20;(with_reducible refine (cmp_any _ _ _ _ _).mono ?_);rintro e w1 ⟨rfl,hb⟩;obtain ⟨hc,hf⟩:=bcell hb))
  go_wp2
  refine bodyPost_ret (v:=.tuple #[.agg #[.int .u64 (subHi ah al bh bl),.int .u64 (IntKind.u64.wrap (al - bl))],.bool (decide (0 ≤ cmpI ah al bh bl))]) (by simp [results,Try.results29,go_sem,hc,hs]) rfl ⟨rfl,?_⟩
  refine Below.setCell (Below.setCell (Below.step ?_ hb (by simp;try omega)) (by simp;try omega) _) (by simp;try omega) _
  (repeat (first|exact Below.refl _ _|refine Below.drew ?_|refine below_drewN' ?_|refine Below.alloc ?_ (by simp;try omega) _|refine Below.setCell ?_ (by simp;try omega) _))
set_option maxHeartbeats 1000000 in
theorem mul_any (a b : Int) (w : World) (ha : isU a) (hb : isU b) :
  Calls Try.prog 16 #[.int .u64 a,.int .u64 b] w fun e w' => e = .returned (.agg #[.int .u64 (hi64 (a * b)),.int .u64 (lo64 (a * b))])∧Below w.heap.size w w':=by
 have hm:=Lib.hid (mul_halves ha hb)
 clear ha hb
 go_enter Try.func16,Try.ntmps16
 go_wp2_with (go_at_call 47;(with_reducible refine (add_any _ _ _ _).mono ?_);rintro e w' ⟨rfl,rfl⟩)
 refine bodyPost_ret (v:=.agg #[.int .u64 (hi64 (a * b)),.int .u64 (lo64 (a * b))]) ?_ rfl ⟨rfl,?_⟩
 ·simp [results,Try.results16,go_sem]
  exact hm.out
 (repeat (first|exact Below.refl _ _|refine Below.drew ?_|refine below_drewN' ?_|refine Below.alloc ?_ (by simp;try omega) _|refine Below.setCell ?_ (by simp;try omega) _))
abbrev wd (n : Int) : Value:=.agg #[.int .u64 (hi64 n),.int .u64 (lo64 n)]
theorem cmp_n (m n : Int) (w : World) :
  Calls Try.prog 20 #[wd m,wd n] w fun e w' => e = .returned (.int .i64 (cmpN m n))∧Below w.heap.size w w' :=
 (cmp_any _ _ _ _ w).mono fun _ _ ⟨he,hw⟩ => ⟨by rw [he,cmp_val],hw⟩
theorem add_n (m n : Int) (w : World) (hm : in128 m) (hn : in128 n) :
  Calls Try.prog 21 #[wd m,wd n] w fun e w' => e = .returned (.tuple #[wd (m128 (m+n)),.bool (lt128 (m+n))])∧Below w.heap.size w w' :=
 (wadd_any _ _ _ _ w).mono fun _ _ ⟨he,hw⟩ => ⟨by obtain ⟨h1,h2,h3⟩:=add_val hm hn;rw [he,h1,h2,h3],hw⟩
theorem sub_n (m n : Int) (w : World) (hm : in128 m) (hn : in128 n) :
  Calls Try.prog 29 #[wd m,wd n] w fun e w' => e = .returned (.tuple #[wd (m128 (m - n)),.bool (decide (n ≤ m))])∧Below w.heap.size w w' :=
 (sub_any _ _ _ _ w).mono fun _ _ ⟨he,hw⟩ => ⟨by obtain ⟨h1,h2,h3⟩:=sub_val hm hn;rw [he,h1,h2,h3],hw⟩
set_option maxHeartbeats 1000000 in
theorem area_any (x0 x1 y0 y1 : Int) (w : World) (hX : isU (widthI x0 x1)) (hY : isU (widthI y0 y1)) :
  Calls Try.prog 24 #[.agg #[.int .i64 x0,.int .i64 x1,.int .i64 y0,.int .i64 y1]] w fun e w' => e = .returned (wd (widthI x0 x1 * widthI y0 y1))∧Below w.heap.size w w':=by
 have HX:=Lib.hid hX
 have HY:=Lib.hid hY
 clear hX hY
 go_enter Try.func24,Try.ntmps24
 go_wp2_with fail
 go_region_held3 (fun w' => w'.cell? ⟨w.heap.size,0,none⟩ = some (.int .i64 x0)∧w'.cell? ⟨w.heap.size,1,none⟩ = some (.int .i64 x1)∧w'.cell? ⟨w.heap.size,2,none⟩ = some (.int .i64 y0)∧w'.cell? ⟨w.heap.size,3,none⟩ = some (.int .i64 y1)) ((first|(go_simp;done)|(simp [go_sem, *];done)))
   (first|(go_at_call 22;(with_reducible refine (width_any _ _ _).mono ?_);rintro e w1 ⟨rfl,rfl⟩)|(go_at_call 16;(with_reducible refine (mul_any _ _ _ HX.out HY.out).mono ?_);rintro e w1 ⟨rfl,hb⟩;obtain ⟨hc,hf⟩:=bcell hb))
 go_wp2
 refine bodyPost_ret (v:=wd (widthI x0 x1 * widthI y0 y1)) (by simp [results,Try.results24,go_sem,hc]) rfl ⟨rfl,?_⟩
 (repeat (first|exact Below.refl _ _|refine Below.drew ?_|refine below_drewN' ?_|refine Below.alloc ?_ (by first|omega|(simp;done)|(simp;omega)|(simp at *;omega)) _|refine Below.setCell ?_ (by first|omega|(simp;done)|(simp;omega)|(simp at *;omega)) _|refine Below.step ?_ hb (by first|omega|(simp;done)|(simp;omega)|(simp at *;omega))))
theorem zero_wd (x : Int) (h : isU x) : (0 : Int) = hi64 x∧x = lo64 x:=by unfold isU at h;unfold hi64 lo64;omega
set_option maxHeartbeats 1000000 in
theorem margin_any (x0 x1 y0 y1 : Int) (w : World) (hX : isU (widthI x0 x1)) (hY : isU (widthI y0 y1)) :
  Calls Try.prog 26 #[.agg #[.int .i64 x0,.int .i64 x1,.int .i64 y0,.int .i64 y1]] w fun e w' => e = .returned (wd (widthI x0 x1+widthI y0 y1))∧Below w.heap.size w w':=by
 have HA : ∀ W,Hid (Calls Try.prog 21 #[.agg #[.int .u64 0,.int .u64 (widthI x0 x1)],.agg #[.int .u64 0,.int .u64 (widthI y0 y1)]] W fun e w' => e = .returned (.tuple #[wd (widthI x0 x1+widthI y0 y1),.bool true])∧Below W.heap.size W w'):=by
  intro W
  have:=add_n (widthI x0 x1) (widthI y0 y1) W (by unfold isU at hX;unfold in128;omega) (by unfold isU at hY;unfold in128;omega)
  have e1 : m128 (widthI x0 x1+widthI y0 y1) = widthI x0 x1+widthI y0 y1:=by unfold isU at hX hY;unfold m128;omega
  have e2 : lt128 (widthI x0 x1+widthI y0 y1) = true:=by unfold isU at hX hY;unfold lt128;simp;omega
  rw [e1,e2] at this
  obtain ⟨a1,a2⟩:=zero_wd _ hX
  obtain ⟨b1,b2⟩:=zero_wd _ hY
  unfold wd at this
  rw [← a1,← b1,← a2,← b2] at this
  exact Lib.hid this
 clear hX hY
 go_enter Try.func26,Try.ntmps26
 go_wp2_with fail
 go_region_held3 (fun w' => w'.cell? ⟨w.heap.size,0,none⟩ = some (.int .i64 x0)∧w'.cell? ⟨w.heap.size,1,none⟩ = some (.int .i64 x1)∧w'.cell? ⟨w.heap.size,2,none⟩ = some (.int .i64 y0)∧w'.cell? ⟨w.heap.size,3,none⟩ = some (.int .i64 y1)) ((first|(go_simp;done)|(simp [go_sem, *];done)))
   (first|(go_at_call 22;(with_reducible refine (width_any _ _ _).mono ?_);rintro e w1 ⟨rfl,rfl⟩)|(go_at_call 21;(with_reducible refine (HA _).out.mono ?_);rintro e w1 ⟨rfl,hb⟩;obtain ⟨hc,hf⟩:=bcell hb;have hz0 : w.heap.size < w1.heap.size:=(by have h9:=Below.size hb;simp at h9;omega);have hz1 : w.heap.size+1 < w1.heap.size:=(by have h9:=Below.size hb;simp at h9;omega)))
 all_goals
  go_wp2
  refine bodyPost_ret (v:=wd (widthI x0 x1+widthI y0 y1)) (by simp [results,Try.results26,go_sem,hc,hz0,hz1]) rfl ⟨rfl,?_⟩
  (repeat (first|exact Below.refl _ _|refine Below.drew ?_|refine below_drewN' ?_|refine Below.alloc ?_ (by first|omega|(simp;done)|(simp;omega)|(simp at *;omega)) _|refine Below.setCell ?_ (by first|omega|(simp;done)|(simp;omega)|(simp at *;omega)) _|refine Below.step ?_ hb (by first|omega|(simp;done)|(simp;omega)|(simp at *;omega))))
end Go.Proofs.Ythlhmijgbjcloaa
