/- What the row of this claim reaches. No condition. -/
import Derived.Laws.BytesArg
import Derived.WalkKit
import Derived.Test.YthlhmijgbjcloaaGX5
set_option linter.unusedVariables false
set_option linter.unusedSimpArgs false
namespace Go.Proofs.Ythlhmijgbjcloaa.A
open Go.RowKit Go.Proofs.YthlhmijgbjcloaaW.PrintWords Go.Proofs.YthlhmijgbjcloaaW.PrintLast Go.Proofs.YthlhmijgbjcloaaW.PrintMore
theorem i64_wf {a : Int} (h : (Lit.int .i64 a).wf = true) : isI a:=by
 have:=bounds_i64 h
 unfold isI
 omega
def boxB (a b c d : Int) : Bool:=decide (a ≤ b∧c ≤ d)
abbrev inK (a b c d : Int) : Prop:=isI a∧isI b∧isI c∧isI d
theorem inK_of {x : S35} (h : wf35 x) : inK x.f0 x.f1 x.f2 x.f3:=⟨i64_wf h.1,i64_wf h.2.1,i64_wf h.2.2.1,i64_wf h.2.2.2⟩
section
variable (a0 a1 a2 a3 b0 b1 b2 b3 : Int)
theorem box_eq : key_box.f a0 a1 a2 a3 = some (boxB a0 a1 a2 a3):=by
 unfold key_box.f boxB
 by_cases h : a0 ≤ a1 <;> simp [h]
theorem rbox_eq : gazetteerref09_Box.f a0 a1 a2 a3 = some (boxB a0 a1 a2 a3):=by
 unfold gazetteerref09_Box.f boxB
 by_cases h : a0 ≤ a1 <;> simp [h]
theorem union_eq : key_Union.f a0 a1 a2 a3 b0 b1 b2 b3 = some (if boxB a0 a1 a2 a3 = true∧boxB b0 b1 b2 b3 = true then (mn a0 b0,mx a1 b1,mn a2 b2,mx a3 b3) else (0,0,0,0)):=by
 unfold key_Union.f
 rw [box_eq,box_eq]
 cases boxB a0 a1 a2 a3 <;> cases boxB b0 b1 b2 b3 <;> rfl
end
section
variable {a0 a1 a2 a3 b0 b1 b2 b3 : Int}
theorem union_inK (h : inK a0 a1 a2 a3) (g : inK b0 b1 b2 b3) : inK (mn a0 b0) (mx a1 b1) (mn a2 b2) (mx a3 b3):=by
 obtain ⟨h0,h1,h2,h3⟩:=h
 obtain ⟨g0,g1,g2,g3⟩:=g
 refine ⟨?_,?_,?_,?_⟩ <;> (first|unfold mn|unfold mx) <;> split <;> assumption
theorem isIB_of {x : Int} (h : isI x) : isIB x = true:=by unfold isI at h;unfold isIB;simp;omega
theorem isUB_of {x : Int} (h : isU x) : isUB x = true:=by unfold isU at h;unfold isUB;simp;omega
theorem lo_isU (n : Int) : isU (lo64 n):=by unfold isU lo64;omega
theorem num_of {n : Int} (h : in128 n) : num (hi64 n) (lo64 n) = n:=by unfold num hi64 lo64;omega
theorem area_ok (h : inK a0 a1 a2 a3) : ∃ A,in128 A∧areaF a0 a1 a2 a3 = some (hi64 A,lo64 A):=by
 obtain ⟨h0,h1,h2,h3⟩:=h
 refine ⟨_,mul_in (width_isU h0 h1) (width_isU h2 h3),?_⟩
 unfold areaF
 rw [if_pos (by rw [isIB_of h0,isIB_of h1,isIB_of h2,isIB_of h3];rfl)]
theorem margin_ok (h : inK a0 a1 a2 a3) : ∃ A,in128 A∧marginF a0 a1 a2 a3 = some (hi64 A,lo64 A):=by
 obtain ⟨h0,h1,h2,h3⟩:=h
 have w1:=width_isU h0 h1
 have w2:=width_isU h2 h3
 refine ⟨widthI a0 a1+widthI a2 a3,by unfold isU at w1 w2;unfold in128;omega,?_⟩
 unfold marginF
 rw [if_pos (by rw [isIB_of h0,isIB_of h1,isIB_of h2,isIB_of h3];rfl)]
theorem sub_ok {m n : Int} (hm : in128 m) (hn : in128 n) : subF (hi64 m) (lo64 m) (hi64 n) (lo64 n) = some (hi64 (m128 (m - n)),lo64 (m128 (m - n)),decide (n ≤ m)):=by
 unfold subF
 rw [if_pos (by rw [isUB_of (hi_isU hm),isUB_of (lo_isU m),isUB_of (hi_isU hn),isUB_of (lo_isU n)];rfl),num_of hm,num_of hn]
theorem cmp_ok {m n : Int} (hm : in128 m) (hn : in128 n) : cmpF (hi64 m) (lo64 m) (hi64 n) (lo64 n) = some (cmpN m n):=by
 unfold cmpF
 rw [if_pos (by rw [isUB_of (hi_isU hm),isUB_of (lo_isU m),isUB_of (hi_isU hn),isUB_of (lo_isU n)];rfl),num_of hm,num_of hn]
theorem of_ok (h : inK a0 a1 a2 a3) : ∃ A M,in128 A∧in128 M∧areaF a0 a1 a2 a3 = some (hi64 A,lo64 A)∧marginF a0 a1 a2 a3 = some (hi64 M,lo64 M)∧key_of.f a0 a1 a2 a3 = some (hi64 A,lo64 A,hi64 M,lo64 M):=by
 obtain ⟨A,hA,eA⟩:=area_ok h
 obtain ⟨M,hM,eM⟩:=margin_ok h
 refine ⟨A,M,hA,hM,eA,eM,?_⟩
 unfold key_of.f wide_Area.f wide_Margin.f
 rw [eA,eM]
 rfl
theorem grows_ok (h : inK a0 a1 a2 a3) (g : inK b0 b1 b2 b3) (hb : boxB a0 a1 a2 a3 = true) (gb : boxB b0 b1 b2 b3 = true) : ∃ G M,in128 G∧in128 M∧key_grows.f a0 a1 a2 a3 b0 b1 b2 b3 = some (hi64 G,lo64 G,hi64 M,lo64 M) ∧
  (gazetteerref07_Area.f (mn a0 b0) (mx a1 b1) (mn a2 b2) (mx a3 b3)).bind (fun u => (gazetteerref07_Area.f a0 a1 a2 a3).bind fun v => (gazetteerref07_Sub.f u.1 u.2 v.1 v.2).bind fun s => (gazetteerref07_Margin.f (mn a0 b0) (mx a1 b1) (mn a2 b2) (mx a3 b3)).bind fun x => (gazetteerref07_Margin.f a0 a1 a2 a3).bind fun y => (gazetteerref07_Sub.f x.1 x.2 y.1 y.2).bind fun t => some (s.1,s.2.1,t.1,t.2.1)) = some (hi64 G,lo64 G,hi64 M,lo64 M):=by
 obtain ⟨A,M,hA,hM,eA,eM,eO⟩:=of_ok h
 obtain ⟨U,V,hU,hV,eU,eV,eP⟩:=of_ok (union_inK h g)
 refine ⟨m128 (U - A),m128 (V - M),m128_in _,m128_in _,?_,?_⟩
 ·unfold key_grows.f wide_Sub.f
  rw [union_eq,if_pos ⟨hb,gb⟩]
  simp only [Option.bind_some,eP,eO,sub_ok hU hA,sub_ok hV hM]
 ·unfold gazetteerref07_Area.f gazetteerref07_Margin.f gazetteerref07_Sub.f
  simp only [eA,eM,eU,eV,Option.bind_some,sub_ok hU hA,sub_ok hV hM]
theorem refunion_eq (k : Nat) (hb : boxB a0 a1 a2 a3 = true) (gb : boxB b0 b1 b2 b3 = true) : gazetteerref09_Union.f (k+3) a0 a1 a2 a3 b0 b1 b2 b3 = some (mn a0 b0,mx a1 b1,mn a2 b2,mx a3 b3):=by
 unfold gazetteerref09_Union.f
 rw [rbox_eq,rbox_eq,hb,gb]
 simp only [Option.bind_some,if_true,Bool.not_true,gazetteerref09_Union.j0,gazetteerref09_Union.j1,gazetteerref09_Union.j2,Bool.false_eq_true,if_false]
 unfold mn mx
 by_cases c1 : b0 < a0 <;> by_cases c2 : a1 < b1 <;> by_cases c3 : b2 < a2 <;> by_cases c4 : a3 < b3 <;> simp [c1,c2,c3,c4]
theorem refgrows_eq (k : Nat) (h : inK a0 a1 a2 a3) (g : inK b0 b1 b2 b3) (hb : boxB a0 a1 a2 a3 = true) (gb : boxB b0 b1 b2 b3 = true) : gazetteerref09_Grows.f (k+4) a0 a1 a2 a3 b0 b1 b2 b3 = key_grows.f a0 a1 a2 a3 b0 b1 b2 b3:=by
 obtain ⟨G,M,_,_,e1,e2⟩:=grows_ok h g hb gb
 unfold gazetteerref09_Grows.f
 rw [rbox_eq,rbox_eq,hb,gb]
 simp only [Option.bind_some,if_true,Bool.not_true,gazetteerref09_Grows.j0,Bool.false_eq_true,if_false,refunion_eq k hb gb]
 rw [e1,← e2]
theorem refgrows_out (k : Nat) (hb : ¬ (boxB a0 a1 a2 a3 = true∧boxB b0 b1 b2 b3 = true)) : gazetteerref09_Grows.f (k+1) a0 a1 a2 a3 b0 b1 b2 b3 = some (0,0,0,0):=by
 unfold gazetteerref09_Grows.f
 rw [rbox_eq,rbox_eq]
 cases h : boxB a0 a1 a2 a3 <;> cases g : boxB b0 b1 b2 b3 <;> first|rfl|exact absurd ⟨h,g⟩ hb
end
section
variable {a0 a1 a2 a3 b0 b1 b2 b3 c0 c1 c2 c3 : Int}
theorem Grows_eq (k : Nat) (h : inK a0 a1 a2 a3) (g : inK b0 b1 b2 b3) : ∃ p q r s,key_Grows.f a0 a1 a2 a3 b0 b1 b2 b3 = some (p,q,r,s)∧gazetteerref09_Grows.f (k+4) a0 a1 a2 a3 b0 b1 b2 b3 = some (p,q,r,s):=by
 by_cases hb : boxB a0 a1 a2 a3 = true∧boxB b0 b1 b2 b3 = true
 ·obtain ⟨G,M,_,_,e1,_⟩:=grows_ok h g hb.1 hb.2
  refine ⟨_,_,_,_,?_,(refgrows_eq k h g hb.1 hb.2).trans e1⟩
  unfold key_Grows.f
  rw [box_eq,box_eq,hb.1,hb.2]
  simp only [Option.bind_some,if_true,e1]
 ·refine ⟨_,_,_,_,?_,refgrows_out (k+3) hb⟩
  unfold key_Grows.f
  rw [box_eq,box_eq]
  cases h : boxB a0 a1 a2 a3 <;> cases g : boxB b0 b1 b2 b3 <;> first|rfl|exact absurd ⟨h,g⟩ hb
theorem Less_eq (k : Nat) (h : inK a0 a1 a2 a3) (g : inK b0 b1 b2 b3) (i : inK c0 c1 c2 c3) : ∃ r,key_Less.f a0 a1 a2 a3 b0 b1 b2 b3 c0 c1 c2 c3 = some r∧gazetteerref09_Less.f (k+5) a0 a1 a2 a3 b0 b1 b2 b3 c0 c1 c2 c3 = some r:=by
 unfold key_Less.f gazetteerref09_Less.f
 rw [box_eq,box_eq,box_eq,rbox_eq,rbox_eq,rbox_eq]
 cases hb : boxB a0 a1 a2 a3 <;> cases gb : boxB b0 b1 b2 b3 <;> cases ib : boxB c0 c1 c2 c3
 all_goals try exact ⟨false,rfl,rfl⟩
 obtain ⟨G,M,hG,hM,e1,_⟩:=grows_ok h i hb ib
 obtain ⟨G',M',hG',hM',e2,_⟩:=grows_ok g i gb ib
 simp only [Option.bind_some,if_true,Bool.not_true,gazetteerref09_Less.j0,Bool.false_eq_true,if_false]
 rw [refgrows_eq k h i hb ib,refgrows_eq k g i gb ib,e1,e2]
 simp only [Option.bind_some]
 unfold key_size_below.f gazetteerref09_Order.f wide_Cmp.f gazetteerref07_Cmp.f
 simp only [cmp_ok hG hG',cmp_ok hM hM',Option.bind_some]
 by_cases h1 : cmpN G G' < 0
 ·rw [if_pos h1,if_neg (by omega)]
  exact ⟨true,rfl,by simp [h1]⟩
 ·rw [if_neg h1]
  by_cases h2 : cmpN G G' = 0
  ·rw [if_pos h2,if_pos h2]
   exact ⟨_,rfl,rfl⟩
  ·rw [if_neg h2,if_neg h2]
   exact ⟨false,rfl,by simp [h1]⟩
end
end Go.Proofs.Ythlhmijgbjcloaa.A
