/- What the row of this claim reaches. No condition. -/
import Derived.Laws.BytesArg
import Derived.WalkKit
import Derived.StillTailTactics
import Derived.Deep.RegionHeld3
import Derived.Laws.Bits64b
import Derived.Test.YthlhmijgbjcloaaLKeyUnionX0
import Derived.Test.YthlhmijgbjcloaaCPure09
set_option linter.unusedVariables false
set_option linter.unusedSimpArgs false
namespace Go.Proofs.Ythlhmijgbjcloaa.A
open Go.RowKit Go.Proofs.YthlhmijgbjcloaaW.PrintWords Go.Proofs.YthlhmijgbjcloaaW.PrintLast Go.Proofs.YthlhmijgbjcloaaW.PrintMore
theorem i64_wf {a : Int} (h : (Lit.int .i64 a).wf = true) : isI a := by
  have := bounds_i64 h
  unfold isI
  omega
abbrev inK (a b c d : Int) : Prop := isI a ∧ isI b ∧ isI c ∧ isI d
theorem inK_of {x : S35} (h : wf35 x) : inK x.f0 x.f1 x.f2 x.f3 := ⟨i64_wf h.1, i64_wf h.2.1, i64_wf h.2.2.1, i64_wf h.2.2.2⟩
section
variable (a0 a1 a2 a3 b0 b1 b2 b3 : Int)
end
section
variable {a0 a1 a2 a3 b0 b1 b2 b3 : Int}
theorem union_inK (h : inK a0 a1 a2 a3) (g : inK b0 b1 b2 b3) : inK (mn a0 b0) (mx a1 b1) (mn a2 b2) (mx a3 b3) := by
  obtain ⟨h0, h1, h2, h3⟩ := h
  obtain ⟨g0, g1, g2, g3⟩ := g
  refine ⟨?_, ?_, ?_, ?_⟩ <;> (first | unfold mn | unfold mx) <;> split <;> assumption
theorem isIB_of {x : Int} (h : isI x) : isIB x = true := by unfold isI at h; unfold isIB; simp; omega
theorem isUB_of {x : Int} (h : isU x) : isUB x = true := by unfold isU at h; unfold isUB; simp; omega
theorem num_of {n : Int} (h : in128 n) : num (hi64 n) (lo64 n) = n := by unfold num hi64 lo64; omega
theorem area_ok (h : inK a0 a1 a2 a3) : ∃ A, in128 A ∧ areaF a0 a1 a2 a3 = some (hi64 A, lo64 A) := by
  obtain ⟨h0, h1, h2, h3⟩ := h
  refine ⟨_, mul_in (width_isU h0 h1) (width_isU h2 h3), ?_⟩
  unfold areaF
  rw [if_pos (by rw [isIB_of h0, isIB_of h1, isIB_of h2, isIB_of h3]; rfl)]
theorem margin_ok (h : inK a0 a1 a2 a3) : ∃ A, in128 A ∧ marginF a0 a1 a2 a3 = some (hi64 A, lo64 A) := by
  obtain ⟨h0, h1, h2, h3⟩ := h
  have w1 := width_isU h0 h1
  have w2 := width_isU h2 h3
  refine ⟨widthI a0 a1 + widthI a2 a3, by unfold isU at w1 w2; unfold in128; omega, ?_⟩
  unfold marginF
  rw [if_pos (by rw [isIB_of h0, isIB_of h1, isIB_of h2, isIB_of h3]; rfl)]
theorem sub_ok {m n : Int} (hm : in128 m) (hn : in128 n) : subF (hi64 m) (lo64 m) (hi64 n) (lo64 n) = some (hi64 (m128 (m - n)), lo64 (m128 (m - n)), decide (n ≤ m)) := by
  unfold subF
  rw [if_pos (by rw [isUB_of (hi_isU hm), isUB_of (lo_isU m), isUB_of (hi_isU hn), isUB_of (lo_isU n)]; rfl), num_of hm, num_of hn]
theorem of_ok (h : inK a0 a1 a2 a3) : ∃ A M, in128 A ∧ in128 M ∧ areaF a0 a1 a2 a3 = some (hi64 A, lo64 A) ∧ marginF a0 a1 a2 a3 = some (hi64 M, lo64 M) ∧ key_of.f a0 a1 a2 a3 = some (hi64 A, lo64 A, hi64 M, lo64 M) := by
  obtain ⟨A, hA, eA⟩ := area_ok h
  obtain ⟨M, hM, eM⟩ := margin_ok h
  refine ⟨A, M, hA, hM, eA, eM, ?_⟩
  unfold key_of.f wide_Area.f wide_Margin.f
  rw [eA, eM]
  rfl
theorem grows_same (h : inK a0 a1 a2 a3) (hU : key_Union.f a0 a1 a2 a3 b0 b1 b2 b3 = some (a0, a1, a2, a3)) : key_grows.f a0 a1 a2 a3 b0 b1 b2 b3 = some (0, 0, 0, 0) := by
  obtain ⟨A, M, hA, hM, eA, eM, eO⟩ := of_ok h
  unfold key_grows.f wide_Sub.f
  rw [hU]
  simp only [Option.bind_some, eO, sub_ok hA hA, sub_ok hM hM, Int.sub_self]
  rfl
end
section
variable {a0 a1 a2 a3 b0 b1 b2 b3 c0 c1 c2 c3 : Int}
end
end Go.Proofs.Ythlhmijgbjcloaa.A
