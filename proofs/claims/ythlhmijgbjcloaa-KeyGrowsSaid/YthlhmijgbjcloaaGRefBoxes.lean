/- What the row of this claim reaches. No condition. -/
import Derived.Deep.RegionHeld3
import Derived.Laws.BytesArg
import Derived.WalkKit
import Derived.Test.YthlhmijgbjcloaaGRefAdd
set_option linter.unusedVariables false
set_option linter.unusedSimpArgs false
namespace Go.Proofs.Ythlhmijgbjcloaa
open Go.RowKit
set_option maxHeartbeats 1000000 in
theorem refwidth_any (lo hi : Int) (hl : isI lo) (hh : isI hi) (w : World) :
  Calls Try.prog 23 #[.int .i64 lo,.int .i64 hi] w fun e w' => e = .returned (.int .u64 (widthI lo hi))∧w = w':=by
 have hv:=width_val hl hh
 unfold isI at hl hh
 by_cases h1 : hi < lo
 ·rw [if_pos h1] at hv
  rw [hv]
  clear hv
  go_enter Try.func23,Try.ntmps23
  go_wp2
  all_goals go_ret
  all_goals first|exact ⟨rfl,rfl⟩|(exfalso;omega)
 ·rw [if_neg h1] at hv
  rw [hv]
  clear hv
  by_cases h2 : lo < 0∧0 ≤ hi
  ·obtain ⟨h2,h3⟩:=h2
   go_enter Try.func23,Try.ntmps23
   go_wp2
   go_ret
   refine ⟨?_,rfl⟩
   show Ending.returned (.int .u64 (hi+-(lo+1)+1)) = _
   congr 2;omega
  ·go_enter Try.func23,Try.ntmps23
   go_wp2
   all_goals go_ret
   all_goals exact ⟨rfl,rfl⟩
theorem refmul_i (a b : Int) (ha : isU a) (hb : isU b) (w : World) :
  Calls Try.prog 17 #[.int .u64 a,.int .u64 b] w fun e w' => e = .returned (wd (a * b))∧Below w.heap.size w w':=by
 obtain ⟨x,rfl⟩:=Int.eq_ofNat_of_zero_le ha.1
 obtain ⟨y,rfl⟩:=Int.eq_ofNat_of_zero_le hb.1
 have:=refmul_n x y (by have:=ha.2;omega) (by have:=hb.2;omega) w
 rwa [Int.natCast_mul] at this
theorem refadd_i (m n : Int) (hm : in128 m) (hn : in128 n) (w : World) :
  Calls Try.prog 28 #[wd m,wd n] w fun e w' => e = .returned (.tuple #[wd (m128 (m+n)),.bool (lt128 (m+n))])∧Below w.heap.size w w':=by
 obtain ⟨x,rfl⟩:=Int.eq_ofNat_of_zero_le hm.1
 obtain ⟨y,rfl⟩:=Int.eq_ofNat_of_zero_le hn.1
 have hx:=hm.2
 have hy:=hn.2
 have:=refadd_n x y (by omega) (by omega) w
 have e1 : (((x+y) % 2 ^ 128 : Nat) : Int) = m128 ((x : Int)+y):=by unfold m128;omega
 have e2 : ((bt (x+y) 128 : Int) == 0) = lt128 ((x : Int)+y):=by
  unfold lt128 bt
  rw [Bool.eq_iff_iff]
  simp only [beq_iff_eq,decide_eq_true_eq]
  omega
 rwa [e1,e2] at this
set_option maxHeartbeats 1000000 in
theorem refarea_any (x0 x1 y0 y1 : Int) (w : World) (g0 : isI x0) (g1 : isI x1) (g2 : isI y0) (g3 : isI y1) :
  Calls Try.prog 25 #[.agg #[.int .i64 x0,.int .i64 x1,.int .i64 y0,.int .i64 y1]] w fun e w' => e = .returned (wd (widthI x0 x1 * widthI y0 y1))∧Below w.heap.size w w':=by
 have H1:=Lib.hid (And.intro g0 g1)
 have H2:=Lib.hid (And.intro g2 g3)
 have HX:=Lib.hid (width_isU g0 g1)
 have HY:=Lib.hid (width_isU g2 g3)
 clear g0 g1 g2 g3
 go_enter Try.func25,Try.ntmps25
 go_wp2_with fail
 go_region_held3 (fun w' => w'.cell? ⟨w.heap.size,0,none⟩ = some (.int .i64 x0)∧w'.cell? ⟨w.heap.size,1,none⟩ = some (.int .i64 x1)∧w'.cell? ⟨w.heap.size,2,none⟩ = some (.int .i64 y0)∧w'.cell? ⟨w.heap.size,3,none⟩ = some (.int .i64 y1)) ((first|(go_simp;done)|(simp [go_sem, *];done)))
   (first|(go_at_call 23;(with_reducible refine (refwidth_any _ _ H1.out.1 H1.out.2 _).mono ?_);rintro e w1 ⟨rfl,rfl⟩)|(go_at_call 23;(with_reducible refine (refwidth_any _ _ H2.out.1 H2.out.2 _).mono ?_);rintro e w1 ⟨rfl,rfl⟩)|(go_at_call 17;(with_reducible refine (refmul_i _ _ HX.out HY.out _).mono ?_);rintro e w1 ⟨rfl,hb⟩;obtain ⟨hc,hf⟩:=bcell hb))
 go_wp2
 refine bodyPost_ret (v:=wd (widthI x0 x1 * widthI y0 y1)) (by simp [results,Try.results25,go_sem,hc]) rfl ⟨rfl,?_⟩
 (repeat (first|exact Below.refl _ _|refine Below.drew ?_|refine below_drewN' ?_|refine Below.alloc ?_ (by first|omega|(simp;done)|(simp;omega)|(simp at *;omega)) _|refine Below.setCell ?_ (by first|omega|(simp;done)|(simp;omega)|(simp at *;omega)) _|refine Below.step ?_ hb (by first|omega|(simp;done)|(simp;omega)|(simp at *;omega))))
set_option maxHeartbeats 1000000 in
theorem refmargin_any (x0 x1 y0 y1 : Int) (w : World) (g0 : isI x0) (g1 : isI x1) (g2 : isI y0) (g3 : isI y1) :
  Calls Try.prog 27 #[.agg #[.int .i64 x0,.int .i64 x1,.int .i64 y0,.int .i64 y1]] w fun e w' => e = .returned (wd (widthI x0 x1+widthI y0 y1))∧Below w.heap.size w w':=by
 have hX:=width_isU g0 g1
 have hY:=width_isU g2 g3
 have H1:=Lib.hid (And.intro g0 g1)
 have H2:=Lib.hid (And.intro g2 g3)
 have HA : ∀ W,Hid (Calls Try.prog 28 #[.agg #[.int .u64 0,.int .u64 (widthI x0 x1)],.agg #[.int .u64 0,.int .u64 (widthI y0 y1)]] W fun e w' => e = .returned (.tuple #[wd (widthI x0 x1+widthI y0 y1),.bool true])∧Below W.heap.size W w'):=by
  intro W
  have:=refadd_i (widthI x0 x1) (widthI y0 y1) (by unfold isU at hX;unfold in128;omega) (by unfold isU at hY;unfold in128;omega) W
  have e1 : m128 (widthI x0 x1+widthI y0 y1) = widthI x0 x1+widthI y0 y1:=by unfold isU at hX hY;unfold m128;omega
  have e2 : lt128 (widthI x0 x1+widthI y0 y1) = true:=by unfold isU at hX hY;unfold lt128;simp;omega
  rw [e1,e2] at this
  obtain ⟨a1,a2⟩:=zero_wd _ hX
  obtain ⟨b1,b2⟩:=zero_wd _ hY
  unfold wd at this
  rw [← a1,← b1,← a2,← b2] at this
  exact Lib.hid this
 clear hX hY g0 g1 g2 g3
 go_enter Try.func27,Try.ntmps27
 go_wp2_with fail
 go_region_held3 (fun w' => w'.cell? ⟨w.heap.size,0,none⟩ = some (.int .i64 x0)∧w'.cell? ⟨w.heap.size,1,none⟩ = some (.int .i64 x1)∧w'.cell? ⟨w.heap.size,2,none⟩ = some (.int .i64 y0)∧w'.cell? ⟨w.heap.size,3,none⟩ = some (.int .i64 y1)) ((first|(go_simp;done)|(simp [go_sem, *];done)))
   (first|(go_at_call 23;(with_reducible refine (refwidth_any _ _ H1.out.1 H1.out.2 _).mono ?_);rintro e w1 ⟨rfl,rfl⟩)|(go_at_call 23;(with_reducible refine (refwidth_any _ _ H2.out.1 H2.out.2 _).mono ?_);rintro e w1 ⟨rfl,rfl⟩)|(go_at_call 28;(with_reducible refine (HA _).out.mono ?_);rintro e w1 ⟨rfl,hb⟩;obtain ⟨hc,hf⟩:=bcell hb;have hz0 : w.heap.size < w1.heap.size:=(by have h9:=Below.size hb;simp at h9;omega);have hz1 : w.heap.size+1 < w1.heap.size:=(by have h9:=Below.size hb;simp at h9;omega)))
 all_goals
  go_wp2
  refine bodyPost_ret (v:=wd (widthI x0 x1+widthI y0 y1)) (by simp [results,Try.results27,go_sem,hc,hz0,hz1]) rfl ⟨rfl,?_⟩
  (repeat (first|exact Below.refl _ _|refine Below.drew ?_|refine below_drewN' ?_|refine Below.alloc ?_ (by first|omega|(simp;done)|(simp;omega)|(simp at *;omega)) _|refine Below.setCell ?_ (by first|omega|(simp;done)|(simp;omega)|(simp at *;omega)) _|refine Below.step ?_ hb (by first|omega|(simp;done)|(simp;omega)|(simp at *;omega))))
end Go.Proofs.Ythlhmijgbjcloaa
