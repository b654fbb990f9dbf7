/- What the row of this claim reaches. No condition. -/
import Derived.Test.YthlhmijgbjcloaaCKp
import Derived.Test.YthlhmijgbjcloaaCSq
import Derived.Test.YthlhmijgbjcloaaCWMore
import Derived.Test.YthlhmijgbjcloaaCWWords
import Derived.Below
import Derived.Deep.Draws
import Derived.Deep.AppendLies
import Derived.Maps.AppendAt
import Derived.OwnWalk
import Derived.Laws.BytesArg
import Derived.Laws.MakeOwn
import Derived.Laws.OwnMore
import Derived.Deep.OwnRows
import Derived.Tactics
import Derived.Lib.ConvBytes
import Derived.Laws.Slices
import Derived.WalkKit
import Derived.KernelRfl
import Derived.RowKit3
import Derived.Deep.LoopGhost
import Derived.Deep.QuietTactic
import Derived.BigQuiet
import Derived.WideLaws
import Derived.Deep.DeepCutAuto
import Derived.Deep.CutBlock
import Derived.Deep.RegionHeld3
import Derived.Laws.Rows
import Derived.Lib.AppendStr
import Derived.ArgAppend
import Derived.Laws.IdiomCopy
import Derived.RowKit
import Derived.Test.YthlhmijgbjcloaaCWLast
import Derived.OrdersHeld
import Derived.Laws.BitsLemmas
import Derived.Test.YthlhmijgbjcloaaCWApart
import Derived.Test.YthlhmijgbjcloaaCWFoot
import Derived.Test.YthlhmijgbjcloaaCWKept
import Derived.Test.YthlhmijgbjcloaaCWN
import Derived.Test.YthlhmijgbjcloaaCWShare
import Derived.Test.YthlhmijgbjcloaaCX0
import Derived.Test.YthlhmijgbjcloaaCX5
set_option linter.unusedVariables false
set_option linter.unusedSimpArgs false
section
namespace Go.Proofs.Ythlhmijgbjcloaa.A
open Go.RowKit Go.Proofs.YthlhmijgbjcloaaW.PrintWords Go.Proofs.YthlhmijgbjcloaaW.PrintLast Go.Proofs.YthlhmijgbjcloaaW.PrintMore
attribute [local go_sem] max2_int min2_int max_two min_two max_three min_three max_four min_four   -- for this text's walks alone
attribute [local go_sem high] eqA35
def gazetteerlaw09_KeyMeets.j0 : Nat → Bool → Int → Int → Int → Int → Int → Int → Int → Int → Option (Bool)
  | 0, _, _, _, _, _, _, _, _, _ => none
  | k + 1, x29, x196000, x196001, x196002, x196003, x197000, x197001, x197002, x197003 => if x29 = true then (some false) else ((key_Covers.f x196000 x196001 x196002 x196003 x197000 x197001 x197002 x197003).bind fun t204 => (if t204 = true then ((key_Meets.f x196000 x196001 x196002 x196003 x197000 x197001 x197002 x197003).bind fun t205 => (if t205 = true then (if (x196000 == x197000 && (x196001 == x197001 && (x196002 == x197002 && (x196003 == x197003)))) = true then (some true) else ((key_Covers.f x197000 x197001 x197002 x197003 x196000 x196001 x196002 x196003).bind fun t206 => (some (!t206)))) else (some false))) else (some true)))
def gazetteerlaw09_KeyMeets.f (k : Nat) (a0_0 : Int) (a0_1 : Int) (a0_2 : Int) (a0_3 : Int) (a1_0 : Int) (a1_1 : Int) (a1_2 : Int) (a1_3 : Int) (a2_0 : Int) (a2_1 : Int) (a2_2 : Int) (a2_3 : Int) : Option (Bool) := (gazetteerlaw09_wakes.f k).bind fun t198 => (if t198 = true then ((key_Meets.f a0_0 a0_1 a0_2 a0_3 a1_0 a1_1 a1_2 a1_3).bind fun t199 => ((key_Meets.f a1_0 a1_1 a1_2 a1_3 a0_0 a0_1 a0_2 a0_3).bind fun t200 => (if (t199 != t200) = true then (some false) else ((key_Meets.f a0_0 a0_1 a0_2 a0_3 a1_0 a1_1 a1_2 a1_3).bind fun t201 => (if t201 = true then ((key_Covers.f a2_0 a2_1 a2_2 a2_3 a0_0 a0_1 a0_2 a0_3).bind fun t202 => (if t202 = true then ((key_Meets.f a2_0 a2_1 a2_2 a2_3 a1_0 a1_1 a1_2 a1_3).bind fun t203 => (gazetteerlaw09_KeyMeets.j0 k (!t203) a0_0 a0_1 a0_2 a0_3 a1_0 a1_1 a1_2 a1_3)) else (gazetteerlaw09_KeyMeets.j0 k false a0_0 a0_1 a0_2 a0_3 a1_0 a1_1 a1_2 a1_3))) else (gazetteerlaw09_KeyMeets.j0 k false a0_0 a0_1 a0_2 a0_3 a1_0 a1_1 a1_2 a1_3)))))) else (some false))
set_option maxHeartbeats 8000000 in
set_option maxRecDepth 100000 in
theorem gazetteerlaw09_KeyMeets.calls (k : Nat) (a0_0 : Int) (a0_1 : Int) (a0_2 : Int) (a0_3 : Int) (a1_0 : Int) (a1_1 : Int) (a1_2 : Int) (a1_3 : Int) (a2_0 : Int) (a2_1 : Int) (a2_2 : Int) (a2_3 : Int) (r : Bool) (w : World) (h : gazetteerlaw09_KeyMeets.f k a0_0 a0_1 a0_2 a0_3 a1_0 a1_1 a1_2 a1_3 a2_0 a2_1 a2_2 a2_3 = some r) :
  Calls Try.prog 11 #[.agg #[.int .i64 a0_0,.int .i64 a0_1,.int .i64 a0_2,.int .i64 a0_3],.agg #[.int .i64 a1_0,.int .i64 a1_1,.int .i64 a1_2,.int .i64 a1_3],.agg #[.int .i64 a2_0,.int .i64 a2_1,.int .i64 a2_2,.int .i64 a2_3]] w fun e w' => e = .returned (.bool r)∧Below w.heap.size w w':=by
 have hu35:=Try.underlying35
 have HB:=Ak (Below.refl w.heap.size w)
 have H : ((gazetteerlaw09_wakes.f k).bind fun t198 => (if t198 = true then ((key_Meets.f a0_0 a0_1 a0_2 a0_3 a1_0 a1_1 a1_2 a1_3).bind fun t199 => ((key_Meets.f a1_0 a1_1 a1_2 a1_3 a0_0 a0_1 a0_2 a0_3).bind fun t200 => (if (t199 != t200) = true then (some false) else ((key_Meets.f a0_0 a0_1 a0_2 a0_3 a1_0 a1_1 a1_2 a1_3).bind fun t201 => (if t201 = true then ((key_Covers.f a2_0 a2_1 a2_2 a2_3 a0_0 a0_1 a0_2 a0_3).bind fun t202 => (if t202 = true then ((key_Meets.f a2_0 a2_1 a2_2 a2_3 a1_0 a1_1 a1_2 a1_3).bind fun t203 => (gazetteerlaw09_KeyMeets.j0 k (!t203) a0_0 a0_1 a0_2 a0_3 a1_0 a1_1 a1_2 a1_3)) else (gazetteerlaw09_KeyMeets.j0 k false a0_0 a0_1 a0_2 a0_3 a1_0 a1_1 a1_2 a1_3))) else (gazetteerlaw09_KeyMeets.j0 k false a0_0 a0_1 a0_2 a0_3 a1_0 a1_1 a1_2 a1_3)))))) else (some false))) = some r:=h
 clear h
 replace H:=Option.bind_eq_some_iff.mp H
 obtain ⟨t198,A40,H⟩:=H
 replace H : (if t198 = true then ((key_Meets.f a0_0 a0_1 a0_2 a0_3 a1_0 a1_1 a1_2 a1_3).bind fun t199 => ((key_Meets.f a1_0 a1_1 a1_2 a1_3 a0_0 a0_1 a0_2 a0_3).bind fun t200 => (if (t199 != t200) = true then (some false) else ((key_Meets.f a0_0 a0_1 a0_2 a0_3 a1_0 a1_1 a1_2 a1_3).bind fun t201 => (if t201 = true then ((key_Covers.f a2_0 a2_1 a2_2 a2_3 a0_0 a0_1 a0_2 a0_3).bind fun t202 => (if t202 = true then ((key_Meets.f a2_0 a2_1 a2_2 a2_3 a1_0 a1_1 a1_2 a1_3).bind fun t203 => (gazetteerlaw09_KeyMeets.j0 k (!t203) a0_0 a0_1 a0_2 a0_3 a1_0 a1_1 a1_2 a1_3)) else (gazetteerlaw09_KeyMeets.j0 k false a0_0 a0_1 a0_2 a0_3 a1_0 a1_1 a1_2 a1_3))) else (gazetteerlaw09_KeyMeets.j0 k false a0_0 a0_1 a0_2 a0_3 a1_0 a1_1 a1_2 a1_3)))))) else (some false)) = some r:=H
 have A4:=Ak A40
 clear A40
 by_cases c5 : t198 = true
 ·subst c5
  have H1 : ((key_Meets.f a0_0 a0_1 a0_2 a0_3 a1_0 a1_1 a1_2 a1_3).bind fun t199 => ((key_Meets.f a1_0 a1_1 a1_2 a1_3 a0_0 a0_1 a0_2 a0_3).bind fun t200 => (if (t199 != t200) = true then (some false) else ((key_Meets.f a0_0 a0_1 a0_2 a0_3 a1_0 a1_1 a1_2 a1_3).bind fun t201 => (if t201 = true then ((key_Covers.f a2_0 a2_1 a2_2 a2_3 a0_0 a0_1 a0_2 a0_3).bind fun t202 => (if t202 = true then ((key_Meets.f a2_0 a2_1 a2_2 a2_3 a1_0 a1_1 a1_2 a1_3).bind fun t203 => (gazetteerlaw09_KeyMeets.j0 k (!t203) a0_0 a0_1 a0_2 a0_3 a1_0 a1_1 a1_2 a1_3)) else (gazetteerlaw09_KeyMeets.j0 k false a0_0 a0_1 a0_2 a0_3 a1_0 a1_1 a1_2 a1_3))) else (gazetteerlaw09_KeyMeets.j0 k false a0_0 a0_1 a0_2 a0_3 a1_0 a1_1 a1_2 a1_3)))))) = some r:=by rw [if_pos rfl] at H;exact H
  clear H
  have H:=H1
  clear H1
  replace H:=Option.bind_eq_some_iff.mp H
  obtain ⟨t199,A60,H⟩:=H
  replace H : ((key_Meets.f a1_0 a1_1 a1_2 a1_3 a0_0 a0_1 a0_2 a0_3).bind fun t200 => (if (t199 != t200) = true then (some false) else ((key_Meets.f a0_0 a0_1 a0_2 a0_3 a1_0 a1_1 a1_2 a1_3).bind fun t201 => (if t201 = true then ((key_Covers.f a2_0 a2_1 a2_2 a2_3 a0_0 a0_1 a0_2 a0_3).bind fun t202 => (if t202 = true then ((key_Meets.f a2_0 a2_1 a2_2 a2_3 a1_0 a1_1 a1_2 a1_3).bind fun t203 => (gazetteerlaw09_KeyMeets.j0 k (!t203) a0_0 a0_1 a0_2 a0_3 a1_0 a1_1 a1_2 a1_3)) else (gazetteerlaw09_KeyMeets.j0 k false a0_0 a0_1 a0_2 a0_3 a1_0 a1_1 a1_2 a1_3))) else (gazetteerlaw09_KeyMeets.j0 k false a0_0 a0_1 a0_2 a0_3 a1_0 a1_1 a1_2 a1_3))))) = some r:=H
  have A6:=Ak A60
  clear A60
  replace H:=Option.bind_eq_some_iff.mp H
  obtain ⟨t200,A70,H⟩:=H
  replace H : (if (t199 != t200) = true then (some false) else ((key_Meets.f a0_0 a0_1 a0_2 a0_3 a1_0 a1_1 a1_2 a1_3).bind fun t201 => (if t201 = true then ((key_Covers.f a2_0 a2_1 a2_2 a2_3 a0_0 a0_1 a0_2 a0_3).bind fun t202 => (if t202 = true then ((key_Meets.f a2_0 a2_1 a2_2 a2_3 a1_0 a1_1 a1_2 a1_3).bind fun t203 => (gazetteerlaw09_KeyMeets.j0 k (!t203) a0_0 a0_1 a0_2 a0_3 a1_0 a1_1 a1_2 a1_3)) else (gazetteerlaw09_KeyMeets.j0 k false a0_0 a0_1 a0_2 a0_3 a1_0 a1_1 a1_2 a1_3))) else (gazetteerlaw09_KeyMeets.j0 k false a0_0 a0_1 a0_2 a0_3 a1_0 a1_1 a1_2 a1_3)))) = some r:=H
  have A7:=Ak A70
  clear A70
  by_cases c8 : (t199 != t200) = true
  ·rw [if_pos c8] at H
   have c8b0 : (t199 != t200) = true:=c8
   (try (have c8b1 : decide (t199 = t200) = false:=by simpa using c8))
   (try (have c8b2 : (t199 == t200) = false:=by simpa using c8))
   (try (have c8b3 : ¬ (t199 = t200):=by simpa using c8))
   clear c8
   obtain rfl:=Option.some.inj H
   go_enter Try.func11,Try.ntmps11
   try go_wp2_with (first|((with_reducible refine gate_dst (N:=3) rfl ?_);refine box_event ?hg (N:=3) ?hd (cs:=#[.int .i64 a0_0,.int .i64 a0_1,.int .i64 a0_2,.int .i64 a0_3]) (t:=35) ?hr ?_;(case hd => rfl);(case hg => rfl);(case hr => first|(go_simp;done)|(go_simp;rfl));intro gb195 hg w9 hbox hb;have n0_:=Kh HB hb;have n1_:=Ak (hbox);have n2_:=Ak ((by rw [hg];exact (below_size HB.out) : w.heap.size ≤ gb195));have n3_:=Ak ((by rw [hg];exact (below_size HB.out) : w.heap.size ≤ gb195));clear HB;have HB:=n0_;have BK195:=n1_;have GW195:=n2_;have GE195:=n3_;clear n0_ n1_ n2_ n3_;clear hb hbox hg)|((with_reducible refine gate_dst (N:=4) rfl ?_);refine box_event ?hg (N:=4) ?hd (cs:=#[.int .i64 a1_0,.int .i64 a1_1,.int .i64 a1_2,.int .i64 a1_3]) (t:=35) ?hr ?_;(case hd => rfl);(case hg => rfl);(case hr => first|(go_simp;done)|(go_simp;rfl));intro gb196 hg w10 hbox hb;have n0_:=Kb BK195 hb;have n1_:=Kh HB hb;have n2_:=Ak (hbox);have n3_:=Ak ((by rw [hg];exact (below_size HB.out) : w.heap.size ≤ gb196));have n4_:=Ak ((by rw [hg];exact (below_size HB.out) : w.heap.size ≤ gb196));have n5_:=Ak ((by rw [hg];exact Nat.ne_of_lt (blk_lt (g:=gb195) (o:=.cells #[.int .i64 a0_0,.int .i64 a0_1,.int .i64 a0_2,.int .i64 a0_3] 35 (0,0)) BK195.out) : gb195 ≠ gb196));have n6_:=Ak ((by rw [hg];exact Nat.ne_of_gt (blk_lt (g:=gb195) (o:=.cells #[.int .i64 a0_0,.int .i64 a0_1,.int .i64 a0_2,.int .i64 a0_3] 35 (0,0)) BK195.out) : gb196 ≠ gb195));clear BK195;clear HB;have BK195:=n0_;have HB:=n1_;have BK196:=n2_;have GW196:=n3_;have GE196:=n4_;have NB195_196:=n5_;have NB196_195:=n6_;clear n0_ n1_ n2_ n3_ n4_ n5_ n6_;clear hb hbox hg)|((with_reducible refine gate_dst (N:=5) rfl ?_);refine box_event ?hg (N:=5) ?hd (cs:=#[.int .i64 a2_0,.int .i64 a2_1,.int .i64 a2_2,.int .i64 a2_3]) (t:=35) ?hr ?_;(case hd => rfl);(case hg => rfl);(case hr => first|(go_simp;done)|(go_simp;rfl));intro gb197 hg w11 hbox hb;have n0_:=Kb BK195 hb;have n1_:=Kb BK196 hb;have n2_:=Kh HB hb;have n3_:=Ak (hbox);have n4_:=Ak ((by rw [hg];exact (below_size HB.out) : w.heap.size ≤ gb197));have n5_:=Ak ((by rw [hg];exact (below_size HB.out) : w.heap.size ≤ gb197));have n6_:=Ak ((by rw [hg];exact Nat.ne_of_lt (blk_lt (g:=gb195) (o:=.cells #[.int .i64 a0_0,.int .i64 a0_1,.int .i64 a0_2,.int .i64 a0_3] 35 (0,0)) BK195.out) : gb195 ≠ gb197));have n7_:=Ak ((by rw [hg];exact Nat.ne_of_gt (blk_lt (g:=gb195) (o:=.cells #[.int .i64 a0_0,.int .i64 a0_1,.int .i64 a0_2,.int .i64 a0_3] 35 (0,0)) BK195.out) : gb197 ≠ gb195));have n8_:=Ak ((by rw [hg];exact Nat.ne_of_lt (blk_lt (g:=gb196) (o:=.cells #[.int .i64 a1_0,.int .i64 a1_1,.int .i64 a1_2,.int .i64 a1_3] 35 (0,0)) BK196.out) : gb196 ≠ gb197));have n9_:=Ak ((by rw [hg];exact Nat.ne_of_gt (blk_lt (g:=gb196) (o:=.cells #[.int .i64 a1_0,.int .i64 a1_1,.int .i64 a1_2,.int .i64 a1_3] 35 (0,0)) BK196.out) : gb197 ≠ gb196));clear BK195;clear BK196;clear HB;have BK195:=n0_;have BK196:=n1_;have HB:=n2_;have BK197:=n3_;have GW197:=n4_;have GE197:=n5_;have NB195_197:=n6_;have NB197_195:=n7_;have NB196_197:=n8_;have NB197_196:=n9_;clear n0_ n1_ n2_ n3_ n4_ n5_ n6_ n7_ n8_ n9_;clear hb hbox hg)|((with_reducible refine gate_callee (f:=32) rfl ?_);refine goesL_ (some 7) rfl rfl Try.func32 (by kernel_rfl) rfl #[] rfl (by (try simp only [List.map_toArray,List.map_cons,List.map_nil]);first|done|rfl|(simp only [List.length_drop,List.length_take];rfl)) ?_;(with_reducible refine (gazetteerlaw09_wakes.calls k  true _ A4.out).mono ?_);rintro e w12 ⟨rfl,hb⟩;refine ⟨_,rfl,?_⟩;have n0_:=Kb BK195 hb;have n1_:=Kb BK196 hb;have n2_:=Kb BK197 hb;have n3_:=Kh HB hb;clear BK195;clear BK196;clear BK197;clear HB;have BK195:=n0_;have BK196:=n1_;have BK197:=n2_;have HB:=n3_;clear n0_ n1_ n2_ n3_;(try clear hb);(try clear hb2);(try clear hk);(try clear hi)))
   have n0_:=Ak (kD BK195.out)
   have n1_:=Ak (kD BK196.out)
   have n2_:=Ak (kD BK197.out)
   have n3_:=Ak (bD HB.out)
   clear BK195 BK196 BK197 HB
   have BK195:=n0_;have BK196:=n1_;have BK197:=n2_;have HB:=n3_
   clear n0_ n1_ n2_ n3_
   refine start_ (n:=7) (S:=fun w' => w'.cell? ⟨gb195,0,none⟩ = some (.int .i64 a0_0)∧w'.cell? ⟨gb195,1,none⟩ = some (.int .i64 a0_1)∧w'.cell? ⟨gb195,2,none⟩ = some (.int .i64 a0_2)∧w'.cell? ⟨gb195,3,none⟩ = some (.int .i64 a0_3)∧w'.cell? ⟨gb196,0,none⟩ = some (.int .i64 a1_0)∧w'.cell? ⟨gb196,1,none⟩ = some (.int .i64 a1_1)∧w'.cell? ⟨gb196,2,none⟩ = some (.int .i64 a1_2)∧w'.cell? ⟨gb196,3,none⟩ = some (.int .i64 a1_3)) (ds:=[]) #[ff,ff,ff,ff,ff,ff,ff] (by kernel_rfl) rfl rfl ⟨(kC BK195.out 0).trans rfl,(kC BK195.out 1).trans rfl,(kC BK195.out 2).trans rfl,(kC BK195.out 3).trans rfl,(kC BK196.out 0).trans rfl,(kC BK196.out 1).trans rfl,(kC BK196.out 2).trans rfl,(kC BK196.out 3).trans rfl⟩ (fun hHeld => ?_)
   generalize w12.drew = w13 at BK195 BK196 BK197 HB hHeld ⊢
   refine take_ (i:=0) (N:=some 9) (v:=?_) (a':=?_) #[tt,ff,ff,ff,ff,ff,ff] rfl rfl (by kernel_rfl) (fun _ _ _ h => h) (Or.inl ⟨by rfl,?_⟩) hHeld ?_ ?_
   rotate_left
   ·rintro w' ⟨s0,s1,s2,s3,s4,s5,s6,s7⟩
    go_simp
    with_reducible rfl
   rotate_left
   ·simp only [Act.put,sA,sZ,sS,i64_w,i32_w]
    rfl
   refine take_ (i:=1) (N:=some 10) (v:=?_) (a':=?_) #[tt,tt,ff,ff,ff,ff,ff] rfl rfl (by kernel_rfl) (fun _ _ _ h => h) (Or.inl ⟨by rfl,?_⟩) hHeld ?_ ?_
   rotate_left
   ·rintro w' ⟨s0,s1,s2,s3,s4,s5,s6,s7⟩
    go_simp
    with_reducible rfl
   rotate_left
   ·simp only [Act.put,sA,sZ,sS,i64_w,i32_w]
    rfl
   refine take_ (i:=3) (N:=some 12) (v:=?_) (a':=?_) #[tt,tt,ff,tt,ff,ff,ff] rfl rfl (by kernel_rfl) (fun _ _ _ h => h) (Or.inl ⟨by rfl,?_⟩) hHeld ?_ ?_
   rotate_left
   ·rintro w' ⟨s0,s1,s2,s3,s4,s5,s6,s7⟩
    go_simp
    with_reducible rfl
   rotate_left
   ·simp only [Act.put,sA,sZ,sS,i64_w,i32_w]
    rfl
   refine take_ (i:=4) (N:=some 13) (v:=?_) (a':=?_) #[tt,tt,ff,tt,tt,ff,ff] rfl rfl (by kernel_rfl) (fun _ _ _ h => h) (Or.inl ⟨by rfl,?_⟩) hHeld ?_ ?_
   rotate_left
   ·rintro w' ⟨s0,s1,s2,s3,s4,s5,s6,s7⟩
    go_simp
    with_reducible rfl
   rotate_left
   ·simp only [Act.put,sA,sZ,sS,i64_w,i32_w]
    rfl
   refine one_ (i:=2) (N:=some 11) #[tt,tt,tt,tt,tt,ff,ff] rfl rfl (by kernel_rfl) (by decide) (fun K hK => ?_)
   refine goes_ Try.func34 (by kernel_rfl) rfl #[.agg #[.int .i64 a0_0,.int .i64 a0_1,.int .i64 a0_2,.int .i64 a0_3],.agg #[.int .i64 a1_0,.int .i64 a1_1,.int .i64 a1_2,.int .i64 a1_3]] (by rfl) rfl rfl (by (try simp only [List.map_toArray,List.map_cons,List.map_nil]);first|done|rfl|(simp only [List.length_drop,List.length_take];rfl)) ?_
   with_reducible refine (key_Meets.calls a0_0 a0_1 a0_2 a0_3 a1_0 a1_1 a1_2 a1_3 t199 _ A6.out).mono ?_
   rintro e w14 ⟨rfl,hb⟩
   refine ⟨_,rfl,?_⟩
   have n0_:=Kb BK195 hb
   have n1_:=Kb BK196 hb
   have n2_:=Kb BK197 hb
   have n3_:=Kh HB hb
   clear BK195 BK196 BK197 HB
   have BK195:=n0_;have BK196:=n1_;have BK197:=n2_;have HB:=n3_
   clear n0_ n1_ n2_ n3_
   (try clear hb)
   (try clear hb2)
   (try clear hk)
   (try clear hi)
   refine hK.out _ _ ⟨(kC BK195.out 0).trans rfl,(kC BK195.out 1).trans rfl,(kC BK195.out 2).trans rfl,(kC BK195.out 3).trans rfl,(kC BK196.out 0).trans rfl,(kC BK196.out 1).trans rfl,(kC BK196.out 2).trans rfl,(kC BK196.out 3).trans rfl⟩ (fun hHeld => ?_)
   clear hK K
   refine norm_ (a':=?_) ?_ ?_
   rotate_left
   ·show Act.put _ (some 11) _ = _
    simp only [Act.put,sA,sZ,sS,i64_w,i32_w]
    rfl
   refine one_ (i:=5) (N:=some 14) #[tt,tt,tt,tt,tt,tt,ff] rfl rfl (by kernel_rfl) (by decide) (fun K hK => ?_)
   refine goes_ Try.func34 (by kernel_rfl) rfl #[.agg #[.int .i64 a1_0,.int .i64 a1_1,.int .i64 a1_2,.int .i64 a1_3],.agg #[.int .i64 a0_0,.int .i64 a0_1,.int .i64 a0_2,.int .i64 a0_3]] (by rfl) rfl rfl (by (try simp only [List.map_toArray,List.map_cons,List.map_nil]);first|done|rfl|(simp only [List.length_drop,List.length_take];rfl)) ?_
   with_reducible refine (key_Meets.calls a1_0 a1_1 a1_2 a1_3 a0_0 a0_1 a0_2 a0_3 t200 _ A7.out).mono ?_
   rintro e w15 ⟨rfl,hb⟩
   refine ⟨_,rfl,?_⟩
   have n0_:=Kb BK195 hb
   have n1_:=Kb BK196 hb
   have n2_:=Kb BK197 hb
   have n3_:=Kh HB hb
   clear BK195 BK196 BK197 HB
   have BK195:=n0_;have BK196:=n1_;have BK197:=n2_;have HB:=n3_
   clear n0_ n1_ n2_ n3_
   (try clear hb)
   (try clear hb2)
   (try clear hk)
   (try clear hi)
   refine hK.out _ _ ⟨(kC BK195.out 0).trans rfl,(kC BK195.out 1).trans rfl,(kC BK195.out 2).trans rfl,(kC BK195.out 3).trans rfl,(kC BK196.out 0).trans rfl,(kC BK196.out 1).trans rfl,(kC BK196.out 2).trans rfl,(kC BK196.out 3).trans rfl⟩ (fun hHeld => ?_)
   clear hK K
   refine norm_ (a':=?_) ?_ ?_
   rotate_left
   ·show Act.put _ (some 14) _ = _
    simp only [Act.put,sA,sZ,sS,i64_w,i32_w]
    rfl
   refine pure_ (i:=6) (N:=some 15) (v:=?_) (a':=?_) #[tt,tt,tt,tt,tt,tt,tt] rfl rfl (by kernel_rfl) (fun _ _ _ h => h) (Or.inl ⟨by rfl,?_⟩) ?_ ?_
   rotate_left
   ·intro w'
    go_simp
    with_reducible rfl
   rotate_left
   ·simp only [Act.put,sA,sZ,sS,i64_w,i32_w]
    rfl
   refine done_ (by kernel_rfl) ?_
   try go_wp2
   go_ret
   exact ⟨by first|rfl|(simp [errW_none,errW_some] <;> rfl)|(simp [*,errW_none,errW_some] <;> rfl),by repeat (first|(with_reducible first|exact HB.out|apply bA|apply bN|apply bD|refine bS ?_ GE195.out|refine bS ?_ GE196.out|refine bS ?_ GE197.out)|exact HB.out)⟩
  ·rw [if_neg c8] at H
   have c8b0 : (t199 != t200) = false:=by simpa using c8
   (try (have c8b1 : decide (t199 = t200) = true:=by simpa using c8))
   (try (have c8b2 : (t199 == t200) = true:=by simpa using c8))
   clear c8
   have HC16:=Ak H
   clear H
   go_enter Try.func11,Try.ntmps11
   try go_wp2_with (first|((with_reducible refine gate_dst (N:=3) rfl ?_);refine box_event ?hg (N:=3) ?hd (cs:=#[.int .i64 a0_0,.int .i64 a0_1,.int .i64 a0_2,.int .i64 a0_3]) (t:=35) ?hr ?_;(case hd => rfl);(case hg => rfl);(case hr => first|(go_simp;done)|(go_simp;rfl));intro gb195 hg w17 hbox hb;have n0_:=Kh HB hb;have n1_:=Ak (hbox);have n2_:=Ak ((by rw [hg];exact (below_size HB.out) : w.heap.size ≤ gb195));have n3_:=Ak ((by rw [hg];exact (below_size HB.out) : w.heap.size ≤ gb195));clear HB;have HB:=n0_;have BK195:=n1_;have GW195:=n2_;have GE195:=n3_;clear n0_ n1_ n2_ n3_;clear hb hbox hg)|((with_reducible refine gate_dst (N:=4) rfl ?_);refine box_event ?hg (N:=4) ?hd (cs:=#[.int .i64 a1_0,.int .i64 a1_1,.int .i64 a1_2,.int .i64 a1_3]) (t:=35) ?hr ?_;(case hd => rfl);(case hg => rfl);(case hr => first|(go_simp;done)|(go_simp;rfl));intro gb196 hg w18 hbox hb;have n0_:=Kb BK195 hb;have n1_:=Kh HB hb;have n2_:=Ak (hbox);have n3_:=Ak ((by rw [hg];exact (below_size HB.out) : w.heap.size ≤ gb196));have n4_:=Ak ((by rw [hg];exact (below_size HB.out) : w.heap.size ≤ gb196));have n5_:=Ak ((by rw [hg];exact Nat.ne_of_lt (blk_lt (g:=gb195) (o:=.cells #[.int .i64 a0_0,.int .i64 a0_1,.int .i64 a0_2,.int .i64 a0_3] 35 (0,0)) BK195.out) : gb195 ≠ gb196));have n6_:=Ak ((by rw [hg];exact Nat.ne_of_gt (blk_lt (g:=gb195) (o:=.cells #[.int .i64 a0_0,.int .i64 a0_1,.int .i64 a0_2,.int .i64 a0_3] 35 (0,0)) BK195.out) : gb196 ≠ gb195));clear BK195;clear HB;have BK195:=n0_;have HB:=n1_;have BK196:=n2_;have GW196:=n3_;have GE196:=n4_;have NB195_196:=n5_;have NB196_195:=n6_;clear n0_ n1_ n2_ n3_ n4_ n5_ n6_;clear hb hbox hg)|((with_reducible refine gate_dst (N:=5) rfl ?_);refine box_event ?hg (N:=5) ?hd (cs:=#[.int .i64 a2_0,.int .i64 a2_1,.int .i64 a2_2,.int .i64 a2_3]) (t:=35) ?hr ?_;(case hd => rfl);(case hg => rfl);(case hr => first|(go_simp;done)|(go_simp;rfl));intro gb197 hg w19 hbox hb;have n0_:=Kb BK195 hb;have n1_:=Kb BK196 hb;have n2_:=Kh HB hb;have n3_:=Ak (hbox);have n4_:=Ak ((by rw [hg];exact (below_size HB.out) : w.heap.size ≤ gb197));have n5_:=Ak ((by rw [hg];exact (below_size HB.out) : w.heap.size ≤ gb197));have n6_:=Ak ((by rw [hg];exact Nat.ne_of_lt (blk_lt (g:=gb195) (o:=.cells #[.int .i64 a0_0,.int .i64 a0_1,.int .i64 a0_2,.int .i64 a0_3] 35 (0,0)) BK195.out) : gb195 ≠ gb197));have n7_:=Ak ((by rw [hg];exact Nat.ne_of_gt (blk_lt (g:=gb195) (o:=.cells #[.int .i64 a0_0,.int .i64 a0_1,.int .i64 a0_2,.int .i64 a0_3] 35 (0,0)) BK195.out) : gb197 ≠ gb195));have n8_:=Ak ((by rw [hg];exact Nat.ne_of_lt (blk_lt (g:=gb196) (o:=.cells #[.int .i64 a1_0,.int .i64 a1_1,.int .i64 a1_2,.int .i64 a1_3] 35 (0,0)) BK196.out) : gb196 ≠ gb197));have n9_:=Ak ((by rw [hg];exact Nat.ne_of_gt (blk_lt (g:=gb196) (o:=.cells #[.int .i64 a1_0,.int .i64 a1_1,.int .i64 a1_2,.int .i64 a1_3] 35 (0,0)) BK196.out) : gb197 ≠ gb196));clear BK195;clear BK196;clear HB;have BK195:=n0_;have BK196:=n1_;have HB:=n2_;have BK197:=n3_;have GW197:=n4_;have GE197:=n5_;have NB195_197:=n6_;have NB197_195:=n7_;have NB196_197:=n8_;have NB197_196:=n9_;clear n0_ n1_ n2_ n3_ n4_ n5_ n6_ n7_ n8_ n9_;clear hb hbox hg)|((with_reducible refine gate_callee (f:=32) rfl ?_);refine goesL_ (some 7) rfl rfl Try.func32 (by kernel_rfl) rfl #[] rfl (by (try simp only [List.map_toArray,List.map_cons,List.map_nil]);first|done|rfl|(simp only [List.length_drop,List.length_take];rfl)) ?_;(with_reducible refine (gazetteerlaw09_wakes.calls k  true _ A4.out).mono ?_);rintro e w20 ⟨rfl,hb⟩;refine ⟨_,rfl,?_⟩;have n0_:=Kb BK195 hb;have n1_:=Kb BK196 hb;have n2_:=Kb BK197 hb;have n3_:=Kh HB hb;clear BK195;clear BK196;clear BK197;clear HB;have BK195:=n0_;have BK196:=n1_;have BK197:=n2_;have HB:=n3_;clear n0_ n1_ n2_ n3_;(try clear hb);(try clear hb2);(try clear hk);(try clear hi)))
   have n0_:=Ak (kD BK195.out)
   have n1_:=Ak (kD BK196.out)
   have n2_:=Ak (kD BK197.out)
   have n3_:=Ak (bD HB.out)
   clear BK195 BK196 BK197 HB
   have BK195:=n0_;have BK196:=n1_;have BK197:=n2_;have HB:=n3_
   clear n0_ n1_ n2_ n3_
   refine start_ (n:=7) (S:=fun w' => w'.cell? ⟨gb195,0,none⟩ = some (.int .i64 a0_0)∧w'.cell? ⟨gb195,1,none⟩ = some (.int .i64 a0_1)∧w'.cell? ⟨gb195,2,none⟩ = some (.int .i64 a0_2)∧w'.cell? ⟨gb195,3,none⟩ = some (.int .i64 a0_3)∧w'.cell? ⟨gb196,0,none⟩ = some (.int .i64 a1_0)∧w'.cell? ⟨gb196,1,none⟩ = some (.int .i64 a1_1)∧w'.cell? ⟨gb196,2,none⟩ = some (.int .i64 a1_2)∧w'.cell? ⟨gb196,3,none⟩ = some (.int .i64 a1_3)) (ds:=[]) #[ff,ff,ff,ff,ff,ff,ff] (by kernel_rfl) rfl rfl ⟨(kC BK195.out 0).trans rfl,(kC BK195.out 1).trans rfl,(kC BK195.out 2).trans rfl,(kC BK195.out 3).trans rfl,(kC BK196.out 0).trans rfl,(kC BK196.out 1).trans rfl,(kC BK196.out 2).trans rfl,(kC BK196.out 3).trans rfl⟩ (fun hHeld => ?_)
   generalize w20.drew = w21 at BK195 BK196 BK197 HB hHeld ⊢
   refine take_ (i:=0) (N:=some 9) (v:=?_) (a':=?_) #[tt,ff,ff,ff,ff,ff,ff] rfl rfl (by kernel_rfl) (fun _ _ _ h => h) (Or.inl ⟨by rfl,?_⟩) hHeld ?_ ?_
   rotate_left
   ·rintro w' ⟨s0,s1,s2,s3,s4,s5,s6,s7⟩
    go_simp
    with_reducible rfl
   rotate_left
   ·simp only [Act.put,sA,sZ,sS,i64_w,i32_w]
    rfl
   refine take_ (i:=1) (N:=some 10) (v:=?_) (a':=?_) #[tt,tt,ff,ff,ff,ff,ff] rfl rfl (by kernel_rfl) (fun _ _ _ h => h) (Or.inl ⟨by rfl,?_⟩) hHeld ?_ ?_
   rotate_left
   ·rintro w' ⟨s0,s1,s2,s3,s4,s5,s6,s7⟩
    go_simp
    with_reducible rfl
   rotate_left
   ·simp only [Act.put,sA,sZ,sS,i64_w,i32_w]
    rfl
   refine take_ (i:=3) (N:=some 12) (v:=?_) (a':=?_) #[tt,tt,ff,tt,ff,ff,ff] rfl rfl (by kernel_rfl) (fun _ _ _ h => h) (Or.inl ⟨by rfl,?_⟩) hHeld ?_ ?_
   rotate_left
   ·rintro w' ⟨s0,s1,s2,s3,s4,s5,s6,s7⟩
    go_simp
    with_reducible rfl
   rotate_left
   ·simp only [Act.put,sA,sZ,sS,i64_w,i32_w]
    rfl
   refine take_ (i:=4) (N:=some 13) (v:=?_) (a':=?_) #[tt,tt,ff,tt,tt,ff,ff] rfl rfl (by kernel_rfl) (fun _ _ _ h => h) (Or.inl ⟨by rfl,?_⟩) hHeld ?_ ?_
   rotate_left
   ·rintro w' ⟨s0,s1,s2,s3,s4,s5,s6,s7⟩
    go_simp
    with_reducible rfl
   rotate_left
   ·simp only [Act.put,sA,sZ,sS,i64_w,i32_w]
    rfl
   refine one_ (i:=2) (N:=some 11) #[tt,tt,tt,tt,tt,ff,ff] rfl rfl (by kernel_rfl) (by decide) (fun K hK => ?_)
   refine goes_ Try.func34 (by kernel_rfl) rfl #[.agg #[.int .i64 a0_0,.int .i64 a0_1,.int .i64 a0_2,.int .i64 a0_3],.agg #[.int .i64 a1_0,.int .i64 a1_1,.int .i64 a1_2,.int .i64 a1_3]] (by rfl) rfl rfl (by (try simp only [List.map_toArray,List.map_cons,List.map_nil]);first|done|rfl|(simp only [List.length_drop,List.length_take];rfl)) ?_
   with_reducible refine (key_Meets.calls a0_0 a0_1 a0_2 a0_3 a1_0 a1_1 a1_2 a1_3 t199 _ A6.out).mono ?_
   rintro e w22 ⟨rfl,hb⟩
   refine ⟨_,rfl,?_⟩
   have n0_:=Kb BK195 hb
   have n1_:=Kb BK196 hb
   have n2_:=Kb BK197 hb
   have n3_:=Kh HB hb
   clear BK195 BK196 BK197 HB
   have BK195:=n0_;have BK196:=n1_;have BK197:=n2_;have HB:=n3_
   clear n0_ n1_ n2_ n3_
   (try clear hb)
   (try clear hb2)
   (try clear hk)
   (try clear hi)
   refine hK.out _ _ ⟨(kC BK195.out 0).trans rfl,(kC BK195.out 1).trans rfl,(kC BK195.out 2).trans rfl,(kC BK195.out 3).trans rfl,(kC BK196.out 0).trans rfl,(kC BK196.out 1).trans rfl,(kC BK196.out 2).trans rfl,(kC BK196.out 3).trans rfl⟩ (fun hHeld => ?_)
   clear hK K
   refine norm_ (a':=?_) ?_ ?_
   rotate_left
   ·show Act.put _ (some 11) _ = _
    simp only [Act.put,sA,sZ,sS,i64_w,i32_w]
    rfl
   refine one_ (i:=5) (N:=some 14) #[tt,tt,tt,tt,tt,tt,ff] rfl rfl (by kernel_rfl) (by decide) (fun K hK => ?_)
   refine goes_ Try.func34 (by kernel_rfl) rfl #[.agg #[.int .i64 a1_0,.int .i64 a1_1,.int .i64 a1_2,.int .i64 a1_3],.agg #[.int .i64 a0_0,.int .i64 a0_1,.int .i64 a0_2,.int .i64 a0_3]] (by rfl) rfl rfl (by (try simp only [List.map_toArray,List.map_cons,List.map_nil]);first|done|rfl|(simp only [List.length_drop,List.length_take];rfl)) ?_
   with_reducible refine (key_Meets.calls a1_0 a1_1 a1_2 a1_3 a0_0 a0_1 a0_2 a0_3 t200 _ A7.out).mono ?_
   rintro e w23 ⟨rfl,hb⟩
   refine ⟨_,rfl,?_⟩
   have n0_:=Kb BK195 hb
   have n1_:=Kb BK196 hb
   have n2_:=Kb BK197 hb
   have n3_:=Kh HB hb
   clear BK195 BK196 BK197 HB
   have BK195:=n0_;have BK196:=n1_;have BK197:=n2_;have HB:=n3_
   clear n0_ n1_ n2_ n3_
   (try clear hb)
   (try clear hb2)
   (try clear hk)
   (try clear hi)
   refine hK.out _ _ ⟨(kC BK195.out 0).trans rfl,(kC BK195.out 1).trans rfl,(kC BK195.out 2).trans rfl,(kC BK195.out 3).trans rfl,(kC BK196.out 0).trans rfl,(kC BK196.out 1).trans rfl,(kC BK196.out 2).trans rfl,(kC BK196.out 3).trans rfl⟩ (fun hHeld => ?_)
   clear hK K
   refine norm_ (a':=?_) ?_ ?_
   rotate_left
   ·show Act.put _ (some 14) _ = _
    simp only [Act.put,sA,sZ,sS,i64_w,i32_w]
    rfl
   refine pure_ (i:=6) (N:=some 15) (v:=?_) (a':=?_) #[tt,tt,tt,tt,tt,tt,tt] rfl rfl (by kernel_rfl) (fun _ _ _ h => h) (Or.inl ⟨by rfl,?_⟩) ?_ ?_
   rotate_left
   ·intro w'
    go_simp
    with_reducible rfl
   rotate_left
   ·simp only [Act.put,sA,sZ,sS,i64_w,i32_w]
    rfl
   refine done_ (by kernel_rfl) ?_
   go_upto_region 5 with (fail)
   go_cut [29] (fun v29 wc => ∃ (kq : Nat) (x29_15 : Bool),v29 = .bool x29_15∧Aside0 (gazetteerlaw09_KeyMeets.j0 kq x29_15 a0_0 a0_1 a0_2 a0_3 a1_0 a1_1 a1_2 a1_3 = some r)∧Aside0 (kq ≤ k)∧Aside0 (wc.heap[gb195]? = some (.cells #[.int .i64 a0_0,.int .i64 a0_1,.int .i64 a0_2,.int .i64 a0_3] 35 (0,0)))∧Aside0 (wc.heap[gb196]? = some (.cells #[.int .i64 a1_0,.int .i64 a1_1,.int .i64 a1_2,.int .i64 a1_3] 35 (0,0)))∧Aside0 (wc.heap[gb197]? = some (.cells #[.int .i64 a2_0,.int .i64 a2_1,.int .i64 a2_2,.int .i64 a2_3] 35 (0,0)))∧Aside0 (Below w.heap.size w wc))
   case first =>
    have H:=HC16.out
    clear HC16
    replace H:=Option.bind_eq_some_iff.mp H
    obtain ⟨t201,A240,H⟩:=H
    replace H : (if t201 = true then ((key_Covers.f a2_0 a2_1 a2_2 a2_3 a0_0 a0_1 a0_2 a0_3).bind fun t202 => (if t202 = true then ((key_Meets.f a2_0 a2_1 a2_2 a2_3 a1_0 a1_1 a1_2 a1_3).bind fun t203 => (gazetteerlaw09_KeyMeets.j0 k (!t203) a0_0 a0_1 a0_2 a0_3 a1_0 a1_1 a1_2 a1_3)) else (gazetteerlaw09_KeyMeets.j0 k false a0_0 a0_1 a0_2 a0_3 a1_0 a1_1 a1_2 a1_3))) else (gazetteerlaw09_KeyMeets.j0 k false a0_0 a0_1 a0_2 a0_3 a1_0 a1_1 a1_2 a1_3)) = some r:=H
    have A24:=Ak A240
    clear A240
    by_cases c25 : t201 = true
    ·subst c25
     have H1 : ((key_Covers.f a2_0 a2_1 a2_2 a2_3 a0_0 a0_1 a0_2 a0_3).bind fun t202 => (if t202 = true then ((key_Meets.f a2_0 a2_1 a2_2 a2_3 a1_0 a1_1 a1_2 a1_3).bind fun t203 => (gazetteerlaw09_KeyMeets.j0 k (!t203) a0_0 a0_1 a0_2 a0_3 a1_0 a1_1 a1_2 a1_3)) else (gazetteerlaw09_KeyMeets.j0 k false a0_0 a0_1 a0_2 a0_3 a1_0 a1_1 a1_2 a1_3))) = some r:=by rw [if_pos rfl] at H;exact H
     clear H
     have H:=H1
     clear H1
     replace H:=Option.bind_eq_some_iff.mp H
     obtain ⟨t202,A260,H⟩:=H
     replace H : (if t202 = true then ((key_Meets.f a2_0 a2_1 a2_2 a2_3 a1_0 a1_1 a1_2 a1_3).bind fun t203 => (gazetteerlaw09_KeyMeets.j0 k (!t203) a0_0 a0_1 a0_2 a0_3 a1_0 a1_1 a1_2 a1_3)) else (gazetteerlaw09_KeyMeets.j0 k false a0_0 a0_1 a0_2 a0_3 a1_0 a1_1 a1_2 a1_3)) = some r:=H
     have A26:=Ak A260
     clear A260
     by_cases c27 : t202 = true
     ·subst c27
      have H1 : ((key_Meets.f a2_0 a2_1 a2_2 a2_3 a1_0 a1_1 a1_2 a1_3).bind fun t203 => (gazetteerlaw09_KeyMeets.j0 k (!t203) a0_0 a0_1 a0_2 a0_3 a1_0 a1_1 a1_2 a1_3)) = some r:=by rw [if_pos rfl] at H;exact H
      clear H
      have H:=H1
      clear H1
      replace H:=Option.bind_eq_some_iff.mp H
      obtain ⟨t203,A280,H⟩:=H
      replace H : (gazetteerlaw09_KeyMeets.j0 k (!t203) a0_0 a0_1 a0_2 a0_3 a1_0 a1_1 a1_2 a1_3) = some r:=H
      have A28:=Ak A280
      clear A280
      have H':=Ak H
      clear H
      have hnb29:=NB195_196.out
      have hnc29:=NB196_195.out
      have hnb30:=NB195_197.out
      have hnc30:=NB197_195.out
      have hcz31_0 : w23.cell? ⟨gb195,0,none⟩ = some (.int .i64 a0_0):=(kC BK195.out 0).trans rfl
      have hcz31_1 : w23.cell? ⟨gb195,1,none⟩ = some (.int .i64 a0_1):=(kC BK195.out 1).trans rfl
      have hcz31_2 : w23.cell? ⟨gb195,2,none⟩ = some (.int .i64 a0_2):=(kC BK195.out 2).trans rfl
      have hcz31_3 : w23.cell? ⟨gb195,3,none⟩ = some (.int .i64 a0_3):=(kC BK195.out 3).trans rfl
      have hfz31_0:=blk_frozen BK195.out 0
      have hfz31_1:=blk_frozen BK195.out 1
      have hfz31_2:=blk_frozen BK195.out 2
      have hfz31_3:=blk_frozen BK195.out 3
      have hnb32:=NB196_197.out
      have hnc32:=NB197_196.out
      have hcz33_0 : w23.cell? ⟨gb196,0,none⟩ = some (.int .i64 a1_0):=(kC BK196.out 0).trans rfl
      have hcz33_1 : w23.cell? ⟨gb196,1,none⟩ = some (.int .i64 a1_1):=(kC BK196.out 1).trans rfl
      have hcz33_2 : w23.cell? ⟨gb196,2,none⟩ = some (.int .i64 a1_2):=(kC BK196.out 2).trans rfl
      have hcz33_3 : w23.cell? ⟨gb196,3,none⟩ = some (.int .i64 a1_3):=(kC BK196.out 3).trans rfl
      have hfz33_0:=blk_frozen BK196.out 0
      have hfz33_1:=blk_frozen BK196.out 1
      have hfz33_2:=blk_frozen BK196.out 2
      have hfz33_3:=blk_frozen BK196.out 3
      go_wp2_with (first|((with_reducible refine gate_callee (f:=34) rfl ?_);refine goesL_ (some 18) rfl rfl Try.func34 (by kernel_rfl) rfl #[.agg #[.int .i64 a0_0,.int .i64 a0_1,.int .i64 a0_2,.int .i64 a0_3],.agg #[.int .i64 a1_0,.int .i64 a1_1,.int .i64 a1_2,.int .i64 a1_3]] rfl (by (try simp only [List.map_toArray,List.map_cons,List.map_nil]);first|done|rfl|(simp only [List.length_drop,List.length_take];rfl)) ?_;(with_reducible refine (key_Meets.calls a0_0 a0_1 a0_2 a0_3 a1_0 a1_1 a1_2 a1_3 true _ A24.out).mono ?_);rintro e w34 ⟨rfl,hb⟩;refine ⟨_,rfl,?_⟩;have n0_:=Kb BK195 hb;have n1_:=Kb BK196 hb;have n2_:=Kb BK197 hb;have n3_:=Kh HB hb;clear BK195;clear BK196;clear BK197;clear HB;have BK195:=n0_;have BK196:=n1_;have BK197:=n2_;have HB:=n3_;clear n0_ n1_ n2_ n3_;(try clear hb);(try clear hb2);(try clear hk);(try clear hi);have hcz35_0 : w34.cell? ⟨gb197,0,none⟩ = some (.int .i64 a2_0):=(kC BK197.out 0).trans rfl;have hcz35_1 : w34.cell? ⟨gb197,1,none⟩ = some (.int .i64 a2_1):=(kC BK197.out 1).trans rfl;have hcz35_2 : w34.cell? ⟨gb197,2,none⟩ = some (.int .i64 a2_2):=(kC BK197.out 2).trans rfl;have hcz35_3 : w34.cell? ⟨gb197,3,none⟩ = some (.int .i64 a2_3):=(kC BK197.out 3).trans rfl;have hfz35_0:=blk_frozen BK197.out 0;have hfz35_1:=blk_frozen BK197.out 1;have hfz35_2:=blk_frozen BK197.out 2;have hfz35_3:=blk_frozen BK197.out 3;have hcz36_0 : w34.cell? ⟨gb195,0,none⟩ = some (.int .i64 a0_0):=(kC BK195.out 0).trans rfl;have hcz36_1 : w34.cell? ⟨gb195,1,none⟩ = some (.int .i64 a0_1):=(kC BK195.out 1).trans rfl;have hcz36_2 : w34.cell? ⟨gb195,2,none⟩ = some (.int .i64 a0_2):=(kC BK195.out 2).trans rfl;have hcz36_3 : w34.cell? ⟨gb195,3,none⟩ = some (.int .i64 a0_3):=(kC BK195.out 3).trans rfl;have hfz36_0:=blk_frozen BK195.out 0;have hfz36_1:=blk_frozen BK195.out 1;have hfz36_2:=blk_frozen BK195.out 2;have hfz36_3:=blk_frozen BK195.out 3)|(go_at_call 35;(with_reducible refine (key_Covers.calls a2_0 a2_1 a2_2 a2_3 a0_0 a0_1 a0_2 a0_3 true _ A26.out).mono ?_);rintro e w37 ⟨rfl,hb⟩;have n0_:=Kb BK195 hb;have n1_:=Kb BK196 hb;have n2_:=Kb BK197 hb;have n3_:=Kh HB hb;clear BK195;clear BK196;clear BK197;clear HB;have BK195:=n0_;have BK196:=n1_;have BK197:=n2_;have HB:=n3_;clear n0_ n1_ n2_ n3_;(try clear hb);(try clear hb2);(try clear hk);(try clear hi);have hcz38_0 : w37.cell? ⟨gb197,0,none⟩ = some (.int .i64 a2_0):=(kC BK197.out 0).trans rfl;have hcz38_1 : w37.cell? ⟨gb197,1,none⟩ = some (.int .i64 a2_1):=(kC BK197.out 1).trans rfl;have hcz38_2 : w37.cell? ⟨gb197,2,none⟩ = some (.int .i64 a2_2):=(kC BK197.out 2).trans rfl;have hcz38_3 : w37.cell? ⟨gb197,3,none⟩ = some (.int .i64 a2_3):=(kC BK197.out 3).trans rfl;have hfz38_0:=blk_frozen BK197.out 0;have hfz38_1:=blk_frozen BK197.out 1;have hfz38_2:=blk_frozen BK197.out 2;have hfz38_3:=blk_frozen BK197.out 3;have hcz39_0 : w37.cell? ⟨gb196,0,none⟩ = some (.int .i64 a1_0):=(kC BK196.out 0).trans rfl;have hcz39_1 : w37.cell? ⟨gb196,1,none⟩ = some (.int .i64 a1_1):=(kC BK196.out 1).trans rfl;have hcz39_2 : w37.cell? ⟨gb196,2,none⟩ = some (.int .i64 a1_2):=(kC BK196.out 2).trans rfl;have hcz39_3 : w37.cell? ⟨gb196,3,none⟩ = some (.int .i64 a1_3):=(kC BK196.out 3).trans rfl;have hfz39_0:=blk_frozen BK196.out 0;have hfz39_1:=blk_frozen BK196.out 1;have hfz39_2:=blk_frozen BK196.out 2;have hfz39_3:=blk_frozen BK196.out 3)|(go_at_call 34;(with_reducible refine (key_Meets.calls a2_0 a2_1 a2_2 a2_3 a1_0 a1_1 a1_2 a1_3 t203 _ A28.out).mono ?_);rintro e w40 ⟨rfl,hb⟩;have n0_:=Kb BK195 hb;have n1_:=Kb BK196 hb;have n2_:=Kb BK197 hb;have n3_:=Kh HB hb;clear BK195;clear BK196;clear BK197;clear HB;have BK195:=n0_;have BK196:=n1_;have BK197:=n2_;have HB:=n3_;clear n0_ n1_ n2_ n3_;(try clear hb);(try clear hb2);(try clear hk);(try clear hi)))
      go_meet
      case rel => exact ⟨_,(!t203),(by first|rfl|(simp;done)|(simp [*];done)),H',⟨by first|omega|exact Nat.le_refl _⟩,⟨by (with_reducible repeat (first|refine kN ?_ _|refine kD ?_|refine kA ?_ _));exact BK195.out⟩,⟨by (with_reducible repeat (first|refine kN ?_ _|refine kD ?_|refine kA ?_ _));exact BK196.out⟩,⟨by (with_reducible repeat (first|refine kN ?_ _|refine kD ?_|refine kA ?_ _));exact BK197.out⟩,⟨by repeat (first|(with_reducible first|exact HB.out|apply bA|apply bN|apply bD|refine bS ?_ GE195.out|refine bS ?_ GE196.out|refine bS ?_ GE197.out)|exact HB.out)⟩⟩
     ·replace c27:=Bool.eq_false_iff.mpr c27
      subst c27
      have H1 : (gazetteerlaw09_KeyMeets.j0 k false a0_0 a0_1 a0_2 a0_3 a1_0 a1_1 a1_2 a1_3) = some r:=by rw [if_neg (show ¬ (false = true) by decide)] at H;exact H
      clear H
      have H:=H1
      clear H1
      have H':=Ak H
      clear H
      have hnb41:=NB195_196.out
      have hnc41:=NB196_195.out
      have hnb42:=NB195_197.out
      have hnc42:=NB197_195.out
      have hcz43_0 : w23.cell? ⟨gb195,0,none⟩ = some (.int .i64 a0_0):=(kC BK195.out 0).trans rfl
      have hcz43_1 : w23.cell? ⟨gb195,1,none⟩ = some (.int .i64 a0_1):=(kC BK195.out 1).trans rfl
      have hcz43_2 : w23.cell? ⟨gb195,2,none⟩ = some (.int .i64 a0_2):=(kC BK195.out 2).trans rfl
      have hcz43_3 : w23.cell? ⟨gb195,3,none⟩ = some (.int .i64 a0_3):=(kC BK195.out 3).trans rfl
      have hfz43_0:=blk_frozen BK195.out 0
      have hfz43_1:=blk_frozen BK195.out 1
      have hfz43_2:=blk_frozen BK195.out 2
      have hfz43_3:=blk_frozen BK195.out 3
      have hnb44:=NB196_197.out
      have hnc44:=NB197_196.out
      have hcz45_0 : w23.cell? ⟨gb196,0,none⟩ = some (.int .i64 a1_0):=(kC BK196.out 0).trans rfl
      have hcz45_1 : w23.cell? ⟨gb196,1,none⟩ = some (.int .i64 a1_1):=(kC BK196.out 1).trans rfl
      have hcz45_2 : w23.cell? ⟨gb196,2,none⟩ = some (.int .i64 a1_2):=(kC BK196.out 2).trans rfl
      have hcz45_3 : w23.cell? ⟨gb196,3,none⟩ = some (.int .i64 a1_3):=(kC BK196.out 3).trans rfl
      have hfz45_0:=blk_frozen BK196.out 0
      have hfz45_1:=blk_frozen BK196.out 1
      have hfz45_2:=blk_frozen BK196.out 2
      have hfz45_3:=blk_frozen BK196.out 3
      go_wp2_with (first|((with_reducible refine gate_callee (f:=34) rfl ?_);refine goesL_ (some 18) rfl rfl Try.func34 (by kernel_rfl) rfl #[.agg #[.int .i64 a0_0,.int .i64 a0_1,.int .i64 a0_2,.int .i64 a0_3],.agg #[.int .i64 a1_0,.int .i64 a1_1,.int .i64 a1_2,.int .i64 a1_3]] rfl (by (try simp only [List.map_toArray,List.map_cons,List.map_nil]);first|done|rfl|(simp only [List.length_drop,List.length_take];rfl)) ?_;(with_reducible refine (key_Meets.calls a0_0 a0_1 a0_2 a0_3 a1_0 a1_1 a1_2 a1_3 true _ A24.out).mono ?_);rintro e w46 ⟨rfl,hb⟩;refine ⟨_,rfl,?_⟩;have n0_:=Kb BK195 hb;have n1_:=Kb BK196 hb;have n2_:=Kb BK197 hb;have n3_:=Kh HB hb;clear BK195;clear BK196;clear BK197;clear HB;have BK195:=n0_;have BK196:=n1_;have BK197:=n2_;have HB:=n3_;clear n0_ n1_ n2_ n3_;(try clear hb);(try clear hb2);(try clear hk);(try clear hi);have hcz47_0 : w46.cell? ⟨gb197,0,none⟩ = some (.int .i64 a2_0):=(kC BK197.out 0).trans rfl;have hcz47_1 : w46.cell? ⟨gb197,1,none⟩ = some (.int .i64 a2_1):=(kC BK197.out 1).trans rfl;have hcz47_2 : w46.cell? ⟨gb197,2,none⟩ = some (.int .i64 a2_2):=(kC BK197.out 2).trans rfl;have hcz47_3 : w46.cell? ⟨gb197,3,none⟩ = some (.int .i64 a2_3):=(kC BK197.out 3).trans rfl;have hfz47_0:=blk_frozen BK197.out 0;have hfz47_1:=blk_frozen BK197.out 1;have hfz47_2:=blk_frozen BK197.out 2;have hfz47_3:=blk_frozen BK197.out 3;have hcz48_0 : w46.cell? ⟨gb195,0,none⟩ = some (.int .i64 a0_0):=(kC BK195.out 0).trans rfl;have hcz48_1 : w46.cell? ⟨gb195,1,none⟩ = some (.int .i64 a0_1):=(kC BK195.out 1).trans rfl;have hcz48_2 : w46.cell? ⟨gb195,2,none⟩ = some (.int .i64 a0_2):=(kC BK195.out 2).trans rfl;have hcz48_3 : w46.cell? ⟨gb195,3,none⟩ = some (.int .i64 a0_3):=(kC BK195.out 3).trans rfl;have hfz48_0:=blk_frozen BK195.out 0;have hfz48_1:=blk_frozen BK195.out 1;have hfz48_2:=blk_frozen BK195.out 2;have hfz48_3:=blk_frozen BK195.out 3)|(go_at_call 35;(with_reducible refine (key_Covers.calls a2_0 a2_1 a2_2 a2_3 a0_0 a0_1 a0_2 a0_3 false _ A26.out).mono ?_);rintro e w49 ⟨rfl,hb⟩;have n0_:=Kb BK195 hb;have n1_:=Kb BK196 hb;have n2_:=Kb BK197 hb;have n3_:=Kh HB hb;clear BK195;clear BK196;clear BK197;clear HB;have BK195:=n0_;have BK196:=n1_;have BK197:=n2_;have HB:=n3_;clear n0_ n1_ n2_ n3_;(try clear hb);(try clear hb2);(try clear hk);(try clear hi)))
      go_meet
      case rel => exact ⟨_,(false),(by first|rfl|(simp;done)|(simp [*];done)),H',⟨by first|omega|exact Nat.le_refl _⟩,⟨by (with_reducible repeat (first|refine kN ?_ _|refine kD ?_|refine kA ?_ _));exact BK195.out⟩,⟨by (with_reducible repeat (first|refine kN ?_ _|refine kD ?_|refine kA ?_ _));exact BK196.out⟩,⟨by (with_reducible repeat (first|refine kN ?_ _|refine kD ?_|refine kA ?_ _));exact BK197.out⟩,⟨by repeat (first|(with_reducible first|exact HB.out|apply bA|apply bN|apply bD|refine bS ?_ GE195.out|refine bS ?_ GE196.out|refine bS ?_ GE197.out)|exact HB.out)⟩⟩
    ·replace c25:=Bool.eq_false_iff.mpr c25
     subst c25
     have H1 : (gazetteerlaw09_KeyMeets.j0 k false a0_0 a0_1 a0_2 a0_3 a1_0 a1_1 a1_2 a1_3) = some r:=by rw [if_neg (show ¬ (false = true) by decide)] at H;exact H
     clear H
     have H:=H1
     clear H1
     have H':=Ak H
     clear H
     have hnb50:=NB195_196.out
     have hnc50:=NB196_195.out
     have hnb51:=NB195_197.out
     have hnc51:=NB197_195.out
     have hcz52_0 : w23.cell? ⟨gb195,0,none⟩ = some (.int .i64 a0_0):=(kC BK195.out 0).trans rfl
     have hcz52_1 : w23.cell? ⟨gb195,1,none⟩ = some (.int .i64 a0_1):=(kC BK195.out 1).trans rfl
     have hcz52_2 : w23.cell? ⟨gb195,2,none⟩ = some (.int .i64 a0_2):=(kC BK195.out 2).trans rfl
     have hcz52_3 : w23.cell? ⟨gb195,3,none⟩ = some (.int .i64 a0_3):=(kC BK195.out 3).trans rfl
     have hfz52_0:=blk_frozen BK195.out 0
     have hfz52_1:=blk_frozen BK195.out 1
     have hfz52_2:=blk_frozen BK195.out 2
     have hfz52_3:=blk_frozen BK195.out 3
     have hnb53:=NB196_197.out
     have hnc53:=NB197_196.out
     have hcz54_0 : w23.cell? ⟨gb196,0,none⟩ = some (.int .i64 a1_0):=(kC BK196.out 0).trans rfl
     have hcz54_1 : w23.cell? ⟨gb196,1,none⟩ = some (.int .i64 a1_1):=(kC BK196.out 1).trans rfl
     have hcz54_2 : w23.cell? ⟨gb196,2,none⟩ = some (.int .i64 a1_2):=(kC BK196.out 2).trans rfl
     have hcz54_3 : w23.cell? ⟨gb196,3,none⟩ = some (.int .i64 a1_3):=(kC BK196.out 3).trans rfl
     have hfz54_0:=blk_frozen BK196.out 0
     have hfz54_1:=blk_frozen BK196.out 1
     have hfz54_2:=blk_frozen BK196.out 2
     have hfz54_3:=blk_frozen BK196.out 3
     go_wp2_with (first|((with_reducible refine gate_callee (f:=34) rfl ?_);refine goesL_ (some 18) rfl rfl Try.func34 (by kernel_rfl) rfl #[.agg #[.int .i64 a0_0,.int .i64 a0_1,.int .i64 a0_2,.int .i64 a0_3],.agg #[.int .i64 a1_0,.int .i64 a1_1,.int .i64 a1_2,.int .i64 a1_3]] rfl (by (try simp only [List.map_toArray,List.map_cons,List.map_nil]);first|done|rfl|(simp only [List.length_drop,List.length_take];rfl)) ?_;(with_reducible refine (key_Meets.calls a0_0 a0_1 a0_2 a0_3 a1_0 a1_1 a1_2 a1_3 false _ A24.out).mono ?_);rintro e w55 ⟨rfl,hb⟩;refine ⟨_,rfl,?_⟩;have n0_:=Kb BK195 hb;have n1_:=Kb BK196 hb;have n2_:=Kb BK197 hb;have n3_:=Kh HB hb;clear BK195;clear BK196;clear BK197;clear HB;have BK195:=n0_;have BK196:=n1_;have BK197:=n2_;have HB:=n3_;clear n0_ n1_ n2_ n3_;(try clear hb);(try clear hb2);(try clear hk);(try clear hi)))
     go_meet
     case rel => exact ⟨_,(false),(by first|rfl|(simp;done)|(simp [*];done)),H',⟨by first|omega|exact Nat.le_refl _⟩,⟨by (with_reducible repeat (first|refine kN ?_ _|refine kD ?_|refine kA ?_ _));exact BK195.out⟩,⟨by (with_reducible repeat (first|refine kN ?_ _|refine kD ?_|refine kA ?_ _));exact BK196.out⟩,⟨by (with_reducible repeat (first|refine kN ?_ _|refine kD ?_|refine kA ?_ _));exact BK197.out⟩,⟨by repeat (first|(with_reducible first|exact HB.out|apply bA|apply bN|apply bD|refine bS ?_ GE195.out|refine bS ?_ GE196.out|refine bS ?_ GE197.out)|exact HB.out)⟩⟩
   case rest =>
    clear HC16
    try clear c1
    try clear c2
    try clear p2
    try clear c3
    try clear c4
    try clear c5
    try clear c8
    try clear c8b0
    try clear c8b1
    try clear c8b2
    try clear c11
    try clear c25
    try clear c27
    try clear c29
    try clear c30
    try clear c32
    try clear c34
    try clear c41
    try clear c42
    try clear c44
    try clear c50
    try clear c51
    try clear c53
    try clear hcz31_0
    try clear hcz31_1
    try clear hcz31_2
    try clear hcz31_3
    try clear hcz33_0
    try clear hcz33_1
    try clear hcz33_2
    try clear hcz33_3
    try clear hcz35_0
    try clear hcz35_1
    try clear hcz35_2
    try clear hcz35_3
    try clear hcz36_0
    try clear hcz36_1
    try clear hcz36_2
    try clear hcz36_3
    try clear hcz38_0
    try clear hcz38_1
    try clear hcz38_2
    try clear hcz38_3
    try clear hcz39_0
    try clear hcz39_1
    try clear hcz39_2
    try clear hcz39_3
    try clear hcz43_0
    try clear hcz43_1
    try clear hcz43_2
    try clear hcz43_3
    try clear hcz45_0
    try clear hcz45_1
    try clear hcz45_2
    try clear hcz45_3
    try clear hcz47_0
    try clear hcz47_1
    try clear hcz47_2
    try clear hcz47_3
    try clear hcz48_0
    try clear hcz48_1
    try clear hcz48_2
    try clear hcz48_3
    try clear hcz52_0
    try clear hcz52_1
    try clear hcz52_2
    try clear hcz52_3
    try clear hcz54_0
    try clear hcz54_1
    try clear hcz54_2
    try clear hcz54_3
    try clear hfz31_0
    try clear hfz31_1
    try clear hfz31_2
    try clear hfz31_3
    try clear hfz33_0
    try clear hfz33_1
    try clear hfz33_2
    try clear hfz33_3
    try clear hfz35_0
    try clear hfz35_1
    try clear hfz35_2
    try clear hfz35_3
    try clear hfz36_0
    try clear hfz36_1
    try clear hfz36_2
    try clear hfz36_3
    try clear hfz38_0
    try clear hfz38_1
    try clear hfz38_2
    try clear hfz38_3
    try clear hfz39_0
    try clear hfz39_1
    try clear hfz39_2
    try clear hfz39_3
    try clear hfz43_0
    try clear hfz43_1
    try clear hfz43_2
    try clear hfz43_3
    try clear hfz45_0
    try clear hfz45_1
    try clear hfz45_2
    try clear hfz45_3
    try clear hfz47_0
    try clear hfz47_1
    try clear hfz47_2
    try clear hfz47_3
    try clear hfz48_0
    try clear hfz48_1
    try clear hfz48_2
    try clear hfz48_3
    try clear hfz52_0
    try clear hfz52_1
    try clear hfz52_2
    try clear hfz52_3
    try clear hfz54_0
    try clear hfz54_1
    try clear hfz54_2
    try clear hfz54_3
    obtain ⟨kq,x29_15,rfl,HA,HJ15,BK195,BK196,BK197,HB⟩:=hcut
    cases kq with
    | zero => exact absurd HA.out (by simp [gazetteerlaw09_KeyMeets.j0])
    | succ kj15 =>
     have H:=HA.out
     clear HA
     simp only [gazetteerlaw09_KeyMeets.j0] at H
     by_cases c56 : x29_15 = true
     ·subst c56
      have H1 : (some false) = some r:=by rw [if_pos rfl] at H;exact H
      clear H
      have H:=H1
      clear H1
      obtain rfl:=Option.some.inj H
      go_wp2
      go_ret
      exact ⟨by first|rfl|(simp [errW_none,errW_some] <;> rfl)|(simp [*,errW_none,errW_some] <;> rfl),by repeat (first|(with_reducible first|exact HB.out|apply bA|apply bN|apply bD|refine bS ?_ GE195.out|refine bS ?_ GE196.out|refine bS ?_ GE197.out)|exact HB.out)⟩
     ·replace c56:=Bool.eq_false_iff.mpr c56
      subst c56
      have H1 : ((key_Covers.f a0_0 a0_1 a0_2 a0_3 a1_0 a1_1 a1_2 a1_3).bind fun t204 => (if t204 = true then ((key_Meets.f a0_0 a0_1 a0_2 a0_3 a1_0 a1_1 a1_2 a1_3).bind fun t205 => (if t205 = true then (if (a0_0 == a1_0 && (a0_1 == a1_1 && (a0_2 == a1_2 && (a0_3 == a1_3)))) = true then (some true) else ((key_Covers.f a1_0 a1_1 a1_2 a1_3 a0_0 a0_1 a0_2 a0_3).bind fun t206 => (some (!t206)))) else (some false))) else (some true))) = some r:=by rw [if_neg (show ¬ (false = true) by decide)] at H;exact H
      clear H
      have H:=H1
      clear H1
      replace H:=Option.bind_eq_some_iff.mp H
      obtain ⟨t204,A570,H⟩:=H
      replace H : (if t204 = true then ((key_Meets.f a0_0 a0_1 a0_2 a0_3 a1_0 a1_1 a1_2 a1_3).bind fun t205 => (if t205 = true then (if (a0_0 == a1_0 && (a0_1 == a1_1 && (a0_2 == a1_2 && (a0_3 == a1_3)))) = true then (some true) else ((key_Covers.f a1_0 a1_1 a1_2 a1_3 a0_0 a0_1 a0_2 a0_3).bind fun t206 => (some (!t206)))) else (some false))) else (some true)) = some r:=H
      have A57:=Ak A570
      clear A570
      by_cases c58 : t204 = true
      ·subst c58
       have H1 : ((key_Meets.f a0_0 a0_1 a0_2 a0_3 a1_0 a1_1 a1_2 a1_3).bind fun t205 => (if t205 = true then (if (a0_0 == a1_0 && (a0_1 == a1_1 && (a0_2 == a1_2 && (a0_3 == a1_3)))) = true then (some true) else ((key_Covers.f a1_0 a1_1 a1_2 a1_3 a0_0 a0_1 a0_2 a0_3).bind fun t206 => (some (!t206)))) else (some false))) = some r:=by rw [if_pos rfl] at H;exact H
       clear H
       have H:=H1
       clear H1
       replace H:=Option.bind_eq_some_iff.mp H
       obtain ⟨t205,A590,H⟩:=H
       replace H : (if t205 = true then (if (a0_0 == a1_0 && (a0_1 == a1_1 && (a0_2 == a1_2 && (a0_3 == a1_3)))) = true then (some true) else ((key_Covers.f a1_0 a1_1 a1_2 a1_3 a0_0 a0_1 a0_2 a0_3).bind fun t206 => (some (!t206)))) else (some false)) = some r:=H
       have A59:=Ak A590
       clear A590
       by_cases c60 : t205 = true
       ·subst c60
        have H1 : (if (a0_0 == a1_0 && (a0_1 == a1_1 && (a0_2 == a1_2 && (a0_3 == a1_3)))) = true then (some true) else ((key_Covers.f a1_0 a1_1 a1_2 a1_3 a0_0 a0_1 a0_2 a0_3).bind fun t206 => (some (!t206)))) = some r:=by rw [if_pos rfl] at H;exact H
        clear H
        have H:=H1
        clear H1
        by_cases c61 : (a0_0 == a1_0 && (a0_1 == a1_1 && (a0_2 == a1_2 && (a0_3 == a1_3)))) = true
        ·rw [if_pos c61] at H
         have c61b0 : (a0_0 == a1_0 && (a0_1 == a1_1 && (a0_2 == a1_2 && (a0_3 == a1_3)))) = true:=c61
         (try (have c61b1 : decide (a0_0 = a1_0 && (a0_1 == a1_1 && (a0_2 == a1_2 && (a0_3 == a1_3)))) = true:=by simpa using c61))
         (try (have c61b2 : (a0_0 == a1_0 && (a0_1 == a1_1 && (a0_2 == a1_2 && (a0_3 == a1_3)))) = true:=by simpa using c61))
         clear c61
         obtain rfl:=Option.some.inj H
         have hnb62:=NB195_196.out
         have hnc62:=NB196_195.out
         have hnb63:=NB195_197.out
         have hnc63:=NB197_195.out
         have hcz64_0 : wc.cell? ⟨gb195,0,none⟩ = some (.int .i64 a0_0):=(kC BK195.out 0).trans rfl
         have hcz64_1 : wc.cell? ⟨gb195,1,none⟩ = some (.int .i64 a0_1):=(kC BK195.out 1).trans rfl
         have hcz64_2 : wc.cell? ⟨gb195,2,none⟩ = some (.int .i64 a0_2):=(kC BK195.out 2).trans rfl
         have hcz64_3 : wc.cell? ⟨gb195,3,none⟩ = some (.int .i64 a0_3):=(kC BK195.out 3).trans rfl
         have hfz64_0:=blk_frozen BK195.out 0
         have hfz64_1:=blk_frozen BK195.out 1
         have hfz64_2:=blk_frozen BK195.out 2
         have hfz64_3:=blk_frozen BK195.out 3
         have hnb65:=NB196_197.out
         have hnc65:=NB197_196.out
         have hcz66_0 : wc.cell? ⟨gb196,0,none⟩ = some (.int .i64 a1_0):=(kC BK196.out 0).trans rfl
         have hcz66_1 : wc.cell? ⟨gb196,1,none⟩ = some (.int .i64 a1_1):=(kC BK196.out 1).trans rfl
         have hcz66_2 : wc.cell? ⟨gb196,2,none⟩ = some (.int .i64 a1_2):=(kC BK196.out 2).trans rfl
         have hcz66_3 : wc.cell? ⟨gb196,3,none⟩ = some (.int .i64 a1_3):=(kC BK196.out 3).trans rfl
         have hfz66_0:=blk_frozen BK196.out 0
         have hfz66_1:=blk_frozen BK196.out 1
         have hfz66_2:=blk_frozen BK196.out 2
         have hfz66_3:=blk_frozen BK196.out 3
         go_wp2_with (first|((with_reducible refine gate_callee (f:=35) rfl ?_);refine goesL_ (some 32) rfl rfl Try.func35 (by kernel_rfl) rfl #[.agg #[.int .i64 a0_0,.int .i64 a0_1,.int .i64 a0_2,.int .i64 a0_3],.agg #[.int .i64 a1_0,.int .i64 a1_1,.int .i64 a1_2,.int .i64 a1_3]] rfl (by (try simp only [List.map_toArray,List.map_cons,List.map_nil]);first|done|rfl|(simp only [List.length_drop,List.length_take];rfl)) ?_;(with_reducible refine (key_Covers.calls a0_0 a0_1 a0_2 a0_3 a1_0 a1_1 a1_2 a1_3 true _ A57.out).mono ?_);rintro e w67 ⟨rfl,hb⟩;refine ⟨_,rfl,?_⟩;have n0_:=Kb BK195 hb;have n1_:=Kb BK196 hb;have n2_:=Kb BK197 hb;have n3_:=Kh HB hb;clear BK195;clear BK196;clear BK197;clear HB;have BK195:=n0_;have BK196:=n1_;have BK197:=n2_;have HB:=n3_;clear n0_ n1_ n2_ n3_;(try clear hb);(try clear hb2);(try clear hk);(try clear hi);have hcz68_0 : w67.cell? ⟨gb195,0,none⟩ = some (.int .i64 a0_0):=(kC BK195.out 0).trans rfl;have hcz68_1 : w67.cell? ⟨gb195,1,none⟩ = some (.int .i64 a0_1):=(kC BK195.out 1).trans rfl;have hcz68_2 : w67.cell? ⟨gb195,2,none⟩ = some (.int .i64 a0_2):=(kC BK195.out 2).trans rfl;have hcz68_3 : w67.cell? ⟨gb195,3,none⟩ = some (.int .i64 a0_3):=(kC BK195.out 3).trans rfl;have hfz68_0:=blk_frozen BK195.out 0;have hfz68_1:=blk_frozen BK195.out 1;have hfz68_2:=blk_frozen BK195.out 2;have hfz68_3:=blk_frozen BK195.out 3;have hcz69_0 : w67.cell? ⟨gb196,0,none⟩ = some (.int .i64 a1_0):=(kC BK196.out 0).trans rfl;have hcz69_1 : w67.cell? ⟨gb196,1,none⟩ = some (.int .i64 a1_1):=(kC BK196.out 1).trans rfl;have hcz69_2 : w67.cell? ⟨gb196,2,none⟩ = some (.int .i64 a1_2):=(kC BK196.out 2).trans rfl;have hcz69_3 : w67.cell? ⟨gb196,3,none⟩ = some (.int .i64 a1_3):=(kC BK196.out 3).trans rfl;have hfz69_0:=blk_frozen BK196.out 0;have hfz69_1:=blk_frozen BK196.out 1;have hfz69_2:=blk_frozen BK196.out 2;have hfz69_3:=blk_frozen BK196.out 3)|(go_at_call 34;(with_reducible refine (key_Meets.calls a0_0 a0_1 a0_2 a0_3 a1_0 a1_1 a1_2 a1_3 true _ A59.out).mono ?_);rintro e w70 ⟨rfl,hb⟩;have n0_:=Kb BK195 hb;have n1_:=Kb BK196 hb;have n2_:=Kb BK197 hb;have n3_:=Kh HB hb;clear BK195;clear BK196;clear BK197;clear HB;have BK195:=n0_;have BK196:=n1_;have BK197:=n2_;have HB:=n3_;clear n0_ n1_ n2_ n3_;(try clear hb);(try clear hb2);(try clear hk);(try clear hi);have hcz71_0 : w70.cell? ⟨gb195,0,none⟩ = some (.int .i64 a0_0):=(kC BK195.out 0).trans rfl;have hcz71_1 : w70.cell? ⟨gb195,1,none⟩ = some (.int .i64 a0_1):=(kC BK195.out 1).trans rfl;have hcz71_2 : w70.cell? ⟨gb195,2,none⟩ = some (.int .i64 a0_2):=(kC BK195.out 2).trans rfl;have hcz71_3 : w70.cell? ⟨gb195,3,none⟩ = some (.int .i64 a0_3):=(kC BK195.out 3).trans rfl;have hfz71_0:=blk_frozen BK195.out 0;have hfz71_1:=blk_frozen BK195.out 1;have hfz71_2:=blk_frozen BK195.out 2;have hfz71_3:=blk_frozen BK195.out 3;have hcz72_0 : w70.cell? ⟨gb196,0,none⟩ = some (.int .i64 a1_0):=(kC BK196.out 0).trans rfl;have hcz72_1 : w70.cell? ⟨gb196,1,none⟩ = some (.int .i64 a1_1):=(kC BK196.out 1).trans rfl;have hcz72_2 : w70.cell? ⟨gb196,2,none⟩ = some (.int .i64 a1_2):=(kC BK196.out 2).trans rfl;have hcz72_3 : w70.cell? ⟨gb196,3,none⟩ = some (.int .i64 a1_3):=(kC BK196.out 3).trans rfl;have hfz72_0:=blk_frozen BK196.out 0;have hfz72_1:=blk_frozen BK196.out 1;have hfz72_2:=blk_frozen BK196.out 2;have hfz72_3:=blk_frozen BK196.out 3))
         go_ret
         exact ⟨by first|rfl|(simp [errW_none,errW_some] <;> rfl)|(simp [*,errW_none,errW_some] <;> rfl),by repeat (first|(with_reducible first|exact HB.out|apply bA|apply bN|apply bD|refine bS ?_ GE195.out|refine bS ?_ GE196.out|refine bS ?_ GE197.out)|exact HB.out)⟩
        ·rw [if_neg c61] at H
         have c61b0 : (a0_0 == a1_0 && (a0_1 == a1_1 && (a0_2 == a1_2 && (a0_3 == a1_3)))) = false:=by simpa using c61
         (try (have c61b1 : decide (a0_0 = a1_0 && (a0_1 == a1_1 && (a0_2 == a1_2 && (a0_3 == a1_3)))) = false:=by simpa using c61))
         (try (have c61b2 : (a0_0 == a1_0 && (a0_1 == a1_1 && (a0_2 == a1_2 && (a0_3 == a1_3)))) = false:=by simpa using c61))
         (try (have c61b3 : ¬ (a0_0 = a1_0 && (a0_1 == a1_1 && (a0_2 == a1_2 && (a0_3 == a1_3)))):=by simpa using c61))
         clear c61
         replace H:=Option.bind_eq_some_iff.mp H
         obtain ⟨t206,A730,H⟩:=H
         replace H : (some (!t206)) = some r:=H
         have A73:=Ak A730
         clear A730
         obtain rfl:=Option.some.inj H
         have hnb74:=NB195_196.out
         have hnc74:=NB196_195.out
         have hnb75:=NB195_197.out
         have hnc75:=NB197_195.out
         have hcz76_0 : wc.cell? ⟨gb195,0,none⟩ = some (.int .i64 a0_0):=(kC BK195.out 0).trans rfl
         have hcz76_1 : wc.cell? ⟨gb195,1,none⟩ = some (.int .i64 a0_1):=(kC BK195.out 1).trans rfl
         have hcz76_2 : wc.cell? ⟨gb195,2,none⟩ = some (.int .i64 a0_2):=(kC BK195.out 2).trans rfl
         have hcz76_3 : wc.cell? ⟨gb195,3,none⟩ = some (.int .i64 a0_3):=(kC BK195.out 3).trans rfl
         have hfz76_0:=blk_frozen BK195.out 0
         have hfz76_1:=blk_frozen BK195.out 1
         have hfz76_2:=blk_frozen BK195.out 2
         have hfz76_3:=blk_frozen BK195.out 3
         have hnb77:=NB196_197.out
         have hnc77:=NB197_196.out
         have hcz78_0 : wc.cell? ⟨gb196,0,none⟩ = some (.int .i64 a1_0):=(kC BK196.out 0).trans rfl
         have hcz78_1 : wc.cell? ⟨gb196,1,none⟩ = some (.int .i64 a1_1):=(kC BK196.out 1).trans rfl
         have hcz78_2 : wc.cell? ⟨gb196,2,none⟩ = some (.int .i64 a1_2):=(kC BK196.out 2).trans rfl
         have hcz78_3 : wc.cell? ⟨gb196,3,none⟩ = some (.int .i64 a1_3):=(kC BK196.out 3).trans rfl
         have hfz78_0:=blk_frozen BK196.out 0
         have hfz78_1:=blk_frozen BK196.out 1
         have hfz78_2:=blk_frozen BK196.out 2
         have hfz78_3:=blk_frozen BK196.out 3
         go_wp2_with (first|((with_reducible refine gate_callee (f:=35) rfl ?_);refine goesL_ (some 32) rfl rfl Try.func35 (by kernel_rfl) rfl #[.agg #[.int .i64 a0_0,.int .i64 a0_1,.int .i64 a0_2,.int .i64 a0_3],.agg #[.int .i64 a1_0,.int .i64 a1_1,.int .i64 a1_2,.int .i64 a1_3]] rfl (by (try simp only [List.map_toArray,List.map_cons,List.map_nil]);first|done|rfl|(simp only [List.length_drop,List.length_take];rfl)) ?_;(with_reducible refine (key_Covers.calls a0_0 a0_1 a0_2 a0_3 a1_0 a1_1 a1_2 a1_3 true _ A57.out).mono ?_);rintro e w79 ⟨rfl,hb⟩;refine ⟨_,rfl,?_⟩;have n0_:=Kb BK195 hb;have n1_:=Kb BK196 hb;have n2_:=Kb BK197 hb;have n3_:=Kh HB hb;clear BK195;clear BK196;clear BK197;clear HB;have BK195:=n0_;have BK196:=n1_;have BK197:=n2_;have HB:=n3_;clear n0_ n1_ n2_ n3_;(try clear hb);(try clear hb2);(try clear hk);(try clear hi);have hcz80_0 : w79.cell? ⟨gb195,0,none⟩ = some (.int .i64 a0_0):=(kC BK195.out 0).trans rfl;have hcz80_1 : w79.cell? ⟨gb195,1,none⟩ = some (.int .i64 a0_1):=(kC BK195.out 1).trans rfl;have hcz80_2 : w79.cell? ⟨gb195,2,none⟩ = some (.int .i64 a0_2):=(kC BK195.out 2).trans rfl;have hcz80_3 : w79.cell? ⟨gb195,3,none⟩ = some (.int .i64 a0_3):=(kC BK195.out 3).trans rfl;have hfz80_0:=blk_frozen BK195.out 0;have hfz80_1:=blk_frozen BK195.out 1;have hfz80_2:=blk_frozen BK195.out 2;have hfz80_3:=blk_frozen BK195.out 3;have hcz81_0 : w79.cell? ⟨gb196,0,none⟩ = some (.int .i64 a1_0):=(kC BK196.out 0).trans rfl;have hcz81_1 : w79.cell? ⟨gb196,1,none⟩ = some (.int .i64 a1_1):=(kC BK196.out 1).trans rfl;have hcz81_2 : w79.cell? ⟨gb196,2,none⟩ = some (.int .i64 a1_2):=(kC BK196.out 2).trans rfl;have hcz81_3 : w79.cell? ⟨gb196,3,none⟩ = some (.int .i64 a1_3):=(kC BK196.out 3).trans rfl;have hfz81_0:=blk_frozen BK196.out 0;have hfz81_1:=blk_frozen BK196.out 1;have hfz81_2:=blk_frozen BK196.out 2;have hfz81_3:=blk_frozen BK196.out 3)|(go_at_call 34;(with_reducible refine (key_Meets.calls a0_0 a0_1 a0_2 a0_3 a1_0 a1_1 a1_2 a1_3 true _ A59.out).mono ?_);rintro e w82 ⟨rfl,hb⟩;have n0_:=Kb BK195 hb;have n1_:=Kb BK196 hb;have n2_:=Kb BK197 hb;have n3_:=Kh HB hb;clear BK195;clear BK196;clear BK197;clear HB;have BK195:=n0_;have BK196:=n1_;have BK197:=n2_;have HB:=n3_;clear n0_ n1_ n2_ n3_;(try clear hb);(try clear hb2);(try clear hk);(try clear hi);have hcz83_0 : w82.cell? ⟨gb195,0,none⟩ = some (.int .i64 a0_0):=(kC BK195.out 0).trans rfl;have hcz83_1 : w82.cell? ⟨gb195,1,none⟩ = some (.int .i64 a0_1):=(kC BK195.out 1).trans rfl;have hcz83_2 : w82.cell? ⟨gb195,2,none⟩ = some (.int .i64 a0_2):=(kC BK195.out 2).trans rfl;have hcz83_3 : w82.cell? ⟨gb195,3,none⟩ = some (.int .i64 a0_3):=(kC BK195.out 3).trans rfl;have hfz83_0:=blk_frozen BK195.out 0;have hfz83_1:=blk_frozen BK195.out 1;have hfz83_2:=blk_frozen BK195.out 2;have hfz83_3:=blk_frozen BK195.out 3;have hcz84_0 : w82.cell? ⟨gb196,0,none⟩ = some (.int .i64 a1_0):=(kC BK196.out 0).trans rfl;have hcz84_1 : w82.cell? ⟨gb196,1,none⟩ = some (.int .i64 a1_1):=(kC BK196.out 1).trans rfl;have hcz84_2 : w82.cell? ⟨gb196,2,none⟩ = some (.int .i64 a1_2):=(kC BK196.out 2).trans rfl;have hcz84_3 : w82.cell? ⟨gb196,3,none⟩ = some (.int .i64 a1_3):=(kC BK196.out 3).trans rfl;have hfz84_0:=blk_frozen BK196.out 0;have hfz84_1:=blk_frozen BK196.out 1;have hfz84_2:=blk_frozen BK196.out 2;have hfz84_3:=blk_frozen BK196.out 3)|(go_at_call 35;(with_reducible refine (key_Covers.calls a1_0 a1_1 a1_2 a1_3 a0_0 a0_1 a0_2 a0_3 t206 _ A73.out).mono ?_);rintro e w85 ⟨rfl,hb⟩;have n0_:=Kb BK195 hb;have n1_:=Kb BK196 hb;have n2_:=Kb BK197 hb;have n3_:=Kh HB hb;clear BK195;clear BK196;clear BK197;clear HB;have BK195:=n0_;have BK196:=n1_;have BK197:=n2_;have HB:=n3_;clear n0_ n1_ n2_ n3_;(try clear hb);(try clear hb2);(try clear hk);(try clear hi)))
         go_ret
         exact ⟨by first|rfl|(simp [errW_none,errW_some] <;> rfl)|(simp [*,errW_none,errW_some] <;> rfl),by repeat (first|(with_reducible first|exact HB.out|apply bA|apply bN|apply bD|refine bS ?_ GE195.out|refine bS ?_ GE196.out|refine bS ?_ GE197.out)|exact HB.out)⟩
       ·replace c60:=Bool.eq_false_iff.mpr c60
        subst c60
        have H1 : (some false) = some r:=by rw [if_neg (show ¬ (false = true) by decide)] at H;exact H
        clear H
        have H:=H1
        clear H1
        obtain rfl:=Option.some.inj H
        have hnb86:=NB195_196.out
        have hnc86:=NB196_195.out
        have hnb87:=NB195_197.out
        have hnc87:=NB197_195.out
        have hcz88_0 : wc.cell? ⟨gb195,0,none⟩ = some (.int .i64 a0_0):=(kC BK195.out 0).trans rfl
        have hcz88_1 : wc.cell? ⟨gb195,1,none⟩ = some (.int .i64 a0_1):=(kC BK195.out 1).trans rfl
        have hcz88_2 : wc.cell? ⟨gb195,2,none⟩ = some (.int .i64 a0_2):=(kC BK195.out 2).trans rfl
        have hcz88_3 : wc.cell? ⟨gb195,3,none⟩ = some (.int .i64 a0_3):=(kC BK195.out 3).trans rfl
        have hfz88_0:=blk_frozen BK195.out 0
        have hfz88_1:=blk_frozen BK195.out 1
        have hfz88_2:=blk_frozen BK195.out 2
        have hfz88_3:=blk_frozen BK195.out 3
        have hnb89:=NB196_197.out
        have hnc89:=NB197_196.out
        have hcz90_0 : wc.cell? ⟨gb196,0,none⟩ = some (.int .i64 a1_0):=(kC BK196.out 0).trans rfl
        have hcz90_1 : wc.cell? ⟨gb196,1,none⟩ = some (.int .i64 a1_1):=(kC BK196.out 1).trans rfl
        have hcz90_2 : wc.cell? ⟨gb196,2,none⟩ = some (.int .i64 a1_2):=(kC BK196.out 2).trans rfl
        have hcz90_3 : wc.cell? ⟨gb196,3,none⟩ = some (.int .i64 a1_3):=(kC BK196.out 3).trans rfl
        have hfz90_0:=blk_frozen BK196.out 0
        have hfz90_1:=blk_frozen BK196.out 1
        have hfz90_2:=blk_frozen BK196.out 2
        have hfz90_3:=blk_frozen BK196.out 3
        go_wp2_with (first|((with_reducible refine gate_callee (f:=35) rfl ?_);refine goesL_ (some 32) rfl rfl Try.func35 (by kernel_rfl) rfl #[.agg #[.int .i64 a0_0,.int .i64 a0_1,.int .i64 a0_2,.int .i64 a0_3],.agg #[.int .i64 a1_0,.int .i64 a1_1,.int .i64 a1_2,.int .i64 a1_3]] rfl (by (try simp only [List.map_toArray,List.map_cons,List.map_nil]);first|done|rfl|(simp only [List.length_drop,List.length_take];rfl)) ?_;(with_reducible refine (key_Covers.calls a0_0 a0_1 a0_2 a0_3 a1_0 a1_1 a1_2 a1_3 true _ A57.out).mono ?_);rintro e w91 ⟨rfl,hb⟩;refine ⟨_,rfl,?_⟩;have n0_:=Kb BK195 hb;have n1_:=Kb BK196 hb;have n2_:=Kb BK197 hb;have n3_:=Kh HB hb;clear BK195;clear BK196;clear BK197;clear HB;have BK195:=n0_;have BK196:=n1_;have BK197:=n2_;have HB:=n3_;clear n0_ n1_ n2_ n3_;(try clear hb);(try clear hb2);(try clear hk);(try clear hi);have hcz92_0 : w91.cell? ⟨gb195,0,none⟩ = some (.int .i64 a0_0):=(kC BK195.out 0).trans rfl;have hcz92_1 : w91.cell? ⟨gb195,1,none⟩ = some (.int .i64 a0_1):=(kC BK195.out 1).trans rfl;have hcz92_2 : w91.cell? ⟨gb195,2,none⟩ = some (.int .i64 a0_2):=(kC BK195.out 2).trans rfl;have hcz92_3 : w91.cell? ⟨gb195,3,none⟩ = some (.int .i64 a0_3):=(kC BK195.out 3).trans rfl;have hfz92_0:=blk_frozen BK195.out 0;have hfz92_1:=blk_frozen BK195.out 1;have hfz92_2:=blk_frozen BK195.out 2;have hfz92_3:=blk_frozen BK195.out 3;have hcz93_0 : w91.cell? ⟨gb196,0,none⟩ = some (.int .i64 a1_0):=(kC BK196.out 0).trans rfl;have hcz93_1 : w91.cell? ⟨gb196,1,none⟩ = some (.int .i64 a1_1):=(kC BK196.out 1).trans rfl;have hcz93_2 : w91.cell? ⟨gb196,2,none⟩ = some (.int .i64 a1_2):=(kC BK196.out 2).trans rfl;have hcz93_3 : w91.cell? ⟨gb196,3,none⟩ = some (.int .i64 a1_3):=(kC BK196.out 3).trans rfl;have hfz93_0:=blk_frozen BK196.out 0;have hfz93_1:=blk_frozen BK196.out 1;have hfz93_2:=blk_frozen BK196.out 2;have hfz93_3:=blk_frozen BK196.out 3)|(go_at_call 34;(with_reducible refine (key_Meets.calls a0_0 a0_1 a0_2 a0_3 a1_0 a1_1 a1_2 a1_3 false _ A59.out).mono ?_);rintro e w94 ⟨rfl,hb⟩;have n0_:=Kb BK195 hb;have n1_:=Kb BK196 hb;have n2_:=Kb BK197 hb;have n3_:=Kh HB hb;clear BK195;clear BK196;clear BK197;clear HB;have BK195:=n0_;have BK196:=n1_;have BK197:=n2_;have HB:=n3_;clear n0_ n1_ n2_ n3_;(try clear hb);(try clear hb2);(try clear hk);(try clear hi)))
        go_ret
        exact ⟨by first|rfl|(simp [errW_none,errW_some] <;> rfl)|(simp [*,errW_none,errW_some] <;> rfl),by repeat (first|(with_reducible first|exact HB.out|apply bA|apply bN|apply bD|refine bS ?_ GE195.out|refine bS ?_ GE196.out|refine bS ?_ GE197.out)|exact HB.out)⟩
      ·replace c58:=Bool.eq_false_iff.mpr c58
       subst c58
       have H1 : (some true) = some r:=by rw [if_neg (show ¬ (false = true) by decide)] at H;exact H
       clear H
       have H:=H1
       clear H1
       obtain rfl:=Option.some.inj H
       have hnb95:=NB195_196.out
       have hnc95:=NB196_195.out
       have hnb96:=NB195_197.out
       have hnc96:=NB197_195.out
       have hcz97_0 : wc.cell? ⟨gb195,0,none⟩ = some (.int .i64 a0_0):=(kC BK195.out 0).trans rfl
       have hcz97_1 : wc.cell? ⟨gb195,1,none⟩ = some (.int .i64 a0_1):=(kC BK195.out 1).trans rfl
       have hcz97_2 : wc.cell? ⟨gb195,2,none⟩ = some (.int .i64 a0_2):=(kC BK195.out 2).trans rfl
       have hcz97_3 : wc.cell? ⟨gb195,3,none⟩ = some (.int .i64 a0_3):=(kC BK195.out 3).trans rfl
       have hfz97_0:=blk_frozen BK195.out 0
       have hfz97_1:=blk_frozen BK195.out 1
       have hfz97_2:=blk_frozen BK195.out 2
       have hfz97_3:=blk_frozen BK195.out 3
       have hnb98:=NB196_197.out
       have hnc98:=NB197_196.out
       have hcz99_0 : wc.cell? ⟨gb196,0,none⟩ = some (.int .i64 a1_0):=(kC BK196.out 0).trans rfl
       have hcz99_1 : wc.cell? ⟨gb196,1,none⟩ = some (.int .i64 a1_1):=(kC BK196.out 1).trans rfl
       have hcz99_2 : wc.cell? ⟨gb196,2,none⟩ = some (.int .i64 a1_2):=(kC BK196.out 2).trans rfl
       have hcz99_3 : wc.cell? ⟨gb196,3,none⟩ = some (.int .i64 a1_3):=(kC BK196.out 3).trans rfl
       have hfz99_0:=blk_frozen BK196.out 0
       have hfz99_1:=blk_frozen BK196.out 1
       have hfz99_2:=blk_frozen BK196.out 2
       have hfz99_3:=blk_frozen BK196.out 3
       go_wp2_with (first|((with_reducible refine gate_callee (f:=35) rfl ?_);refine goesL_ (some 32) rfl rfl Try.func35 (by kernel_rfl) rfl #[.agg #[.int .i64 a0_0,.int .i64 a0_1,.int .i64 a0_2,.int .i64 a0_3],.agg #[.int .i64 a1_0,.int .i64 a1_1,.int .i64 a1_2,.int .i64 a1_3]] rfl (by (try simp only [List.map_toArray,List.map_cons,List.map_nil]);first|done|rfl|(simp only [List.length_drop,List.length_take];rfl)) ?_;(with_reducible refine (key_Covers.calls a0_0 a0_1 a0_2 a0_3 a1_0 a1_1 a1_2 a1_3 false _ A57.out).mono ?_);rintro e w100 ⟨rfl,hb⟩;refine ⟨_,rfl,?_⟩;have n0_:=Kb BK195 hb;have n1_:=Kb BK196 hb;have n2_:=Kb BK197 hb;have n3_:=Kh HB hb;clear BK195;clear BK196;clear BK197;clear HB;have BK195:=n0_;have BK196:=n1_;have BK197:=n2_;have HB:=n3_;clear n0_ n1_ n2_ n3_;(try clear hb);(try clear hb2);(try clear hk);(try clear hi)))
       go_ret
       exact ⟨by first|rfl|(simp [errW_none,errW_some] <;> rfl)|(simp [*,errW_none,errW_some] <;> rfl),by repeat (first|(with_reducible first|exact HB.out|apply bA|apply bN|apply bD|refine bS ?_ GE195.out|refine bS ?_ GE196.out|refine bS ?_ GE197.out)|exact HB.out)⟩
 ·replace c5:=Bool.eq_false_iff.mpr c5
  subst c5
  have H1 : (some false) = some r:=by rw [if_neg (show ¬ (false = true) by decide)] at H;exact H
  clear H
  have H:=H1
  clear H1
  obtain rfl:=Option.some.inj H
  go_enter Try.func11,Try.ntmps11
  go_wp2_with (first|((with_reducible refine gate_dst (N:=3) rfl ?_);refine box_event ?hg (N:=3) ?hd (cs:=#[.int .i64 a0_0,.int .i64 a0_1,.int .i64 a0_2,.int .i64 a0_3]) (t:=35) ?hr ?_;(case hd => rfl);(case hg => rfl);(case hr => first|(go_simp;done)|(go_simp;rfl));intro gb195 hg w101 hbox hb;have n0_:=Kh HB hb;have n1_:=Ak (hbox);have n2_:=Ak ((by rw [hg];exact (below_size HB.out) : w.heap.size ≤ gb195));have n3_:=Ak ((by rw [hg];exact (below_size HB.out) : w.heap.size ≤ gb195));clear HB;have HB:=n0_;have BK195:=n1_;have GW195:=n2_;have GE195:=n3_;clear n0_ n1_ n2_ n3_;clear hb hbox hg)|((with_reducible refine gate_dst (N:=4) rfl ?_);refine box_event ?hg (N:=4) ?hd (cs:=#[.int .i64 a1_0,.int .i64 a1_1,.int .i64 a1_2,.int .i64 a1_3]) (t:=35) ?hr ?_;(case hd => rfl);(case hg => rfl);(case hr => first|(go_simp;done)|(go_simp;rfl));intro gb196 hg w102 hbox hb;have n0_:=Kb BK195 hb;have n1_:=Kh HB hb;have n2_:=Ak (hbox);have n3_:=Ak ((by rw [hg];exact (below_size HB.out) : w.heap.size ≤ gb196));have n4_:=Ak ((by rw [hg];exact (below_size HB.out) : w.heap.size ≤ gb196));have n5_:=Ak ((by rw [hg];exact Nat.ne_of_lt (blk_lt (g:=gb195) (o:=.cells #[.int .i64 a0_0,.int .i64 a0_1,.int .i64 a0_2,.int .i64 a0_3] 35 (0,0)) BK195.out) : gb195 ≠ gb196));have n6_:=Ak ((by rw [hg];exact Nat.ne_of_gt (blk_lt (g:=gb195) (o:=.cells #[.int .i64 a0_0,.int .i64 a0_1,.int .i64 a0_2,.int .i64 a0_3] 35 (0,0)) BK195.out) : gb196 ≠ gb195));clear BK195;clear HB;have BK195:=n0_;have HB:=n1_;have BK196:=n2_;have GW196:=n3_;have GE196:=n4_;have NB195_196:=n5_;have NB196_195:=n6_;clear n0_ n1_ n2_ n3_ n4_ n5_ n6_;clear hb hbox hg)|((with_reducible refine gate_dst (N:=5) rfl ?_);refine box_event ?hg (N:=5) ?hd (cs:=#[.int .i64 a2_0,.int .i64 a2_1,.int .i64 a2_2,.int .i64 a2_3]) (t:=35) ?hr ?_;(case hd => rfl);(case hg => rfl);(case hr => first|(go_simp;done)|(go_simp;rfl));intro gb197 hg w103 hbox hb;have n0_:=Kb BK195 hb;have n1_:=Kb BK196 hb;have n2_:=Kh HB hb;have n3_:=Ak (hbox);have n4_:=Ak ((by rw [hg];exact (below_size HB.out) : w.heap.size ≤ gb197));have n5_:=Ak ((by rw [hg];exact (below_size HB.out) : w.heap.size ≤ gb197));have n6_:=Ak ((by rw [hg];exact Nat.ne_of_lt (blk_lt (g:=gb195) (o:=.cells #[.int .i64 a0_0,.int .i64 a0_1,.int .i64 a0_2,.int .i64 a0_3] 35 (0,0)) BK195.out) : gb195 ≠ gb197));have n7_:=Ak ((by rw [hg];exact Nat.ne_of_gt (blk_lt (g:=gb195) (o:=.cells #[.int .i64 a0_0,.int .i64 a0_1,.int .i64 a0_2,.int .i64 a0_3] 35 (0,0)) BK195.out) : gb197 ≠ gb195));have n8_:=Ak ((by rw [hg];exact Nat.ne_of_lt (blk_lt (g:=gb196) (o:=.cells #[.int .i64 a1_0,.int .i64 a1_1,.int .i64 a1_2,.int .i64 a1_3] 35 (0,0)) BK196.out) : gb196 ≠ gb197));have n9_:=Ak ((by rw [hg];exact Nat.ne_of_gt (blk_lt (g:=gb196) (o:=.cells #[.int .i64 a1_0,.int .i64 a1_1,.int .i64 a1_2,.int .i64 a1_3] 35 (0,0)) BK196.out) : gb197 ≠ gb196));clear BK195;clear BK196;clear HB;have BK195:=n0_;have BK196:=n1_;have HB:=n2_;have BK197:=n3_;have GW197:=n4_;have GE197:=n5_;have NB195_197:=n6_;have NB197_195:=n7_;have NB196_197:=n8_;have NB197_196:=n9_;clear n0_ n1_ n2_ n3_ n4_ n5_ n6_ n7_ n8_ n9_;clear hb hbox hg)|((with_reducible refine gate_callee (f:=32) rfl ?_);refine goesL_ (some 7) rfl rfl Try.func32 (by kernel_rfl) rfl #[] rfl (by (try simp only [List.map_toArray,List.map_cons,List.map_nil]);first|done|rfl|(simp only [List.length_drop,List.length_take];rfl)) ?_;(with_reducible refine (gazetteerlaw09_wakes.calls k  false _ A4.out).mono ?_);rintro e w104 ⟨rfl,hb⟩;refine ⟨_,rfl,?_⟩;have n0_:=Kb BK195 hb;have n1_:=Kb BK196 hb;have n2_:=Kb BK197 hb;have n3_:=Kh HB hb;clear BK195;clear BK196;clear BK197;clear HB;have BK195:=n0_;have BK196:=n1_;have BK197:=n2_;have HB:=n3_;clear n0_ n1_ n2_ n3_;(try clear hb);(try clear hb2);(try clear hk);(try clear hi)))
  go_ret
  exact ⟨by first|rfl|(simp [errW_none,errW_some] <;> rfl)|(simp [*,errW_none,errW_some] <;> rfl),by repeat (first|(with_reducible first|exact HB.out|apply bA|apply bN|apply bD|refine bS ?_ GE195.out|refine bS ?_ GE196.out|refine bS ?_ GE197.out)|exact HB.out)⟩
end Go.Proofs.Ythlhmijgbjcloaa.A
end
section
namespace Go.Proofs.Ythlhmijgbjcloaa.A
open Go.RowKit Go.Proofs.YthlhmijgbjcloaaW.PrintWords Go.Proofs.YthlhmijgbjcloaaW.PrintLast Go.Proofs.YthlhmijgbjcloaaW.PrintMore
attribute [local go_sem] max2_int min2_int max_two min_two max_three min_three max_four min_four   -- for this text's walks alone
def KeyMeets_Pure : Prop := ∀ (x0 : S35) (x1 : S35) (x2 : S35), wf35 x0 → wf35 x1 → wf35 x2 → ∃ k, gazetteerlaw09_KeyMeets.f k x0.f0 x0.f1 x0.f2 x0.f3 x1.f0 x1.f1 x1.f2 x1.f3 x2.f0 x2.f1 x2.f2 x2.f3 = some true
end Go.Proofs.Ythlhmijgbjcloaa.A
end
