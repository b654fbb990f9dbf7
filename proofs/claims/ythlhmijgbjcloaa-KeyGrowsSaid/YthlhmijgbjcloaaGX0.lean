/- What the row of this claim reaches. No condition. -/
import Derived.Test.YthlhmijgbjcloaaProg
import Derived.Below
import Derived.Deep.Draws
import Derived.Deep.AppendLies
import Derived.Maps.AppendAt
import Derived.OwnWalk
import Derived.Laws.BytesArg
import Derived.Laws.MakeOwn
import Derived.Laws.OwnMore
import Derived.Deep.OwnRows
import Derived.Tactics
import Derived.Lib.ConvBytes
import Derived.Laws.Slices
import Derived.WalkKit
import Derived.KernelRfl
import Derived.RowKit3
import Derived.Deep.LoopGhost
import Derived.Deep.QuietTactic
import Derived.BigQuiet
import Derived.WideLaws
import Derived.Deep.DeepCutAuto
import Derived.Deep.CutBlock
import Derived.Deep.RegionHeld3
import Derived.Laws.Rows
import Derived.Lib.AppendStr
import Derived.ArgAppend
import Derived.Laws.IdiomCopy
import Derived.OrdersHeld
import Derived.Laws.BitsLemmas
import Derived.RowKit
import Derived.WalkMore
import Derived.Test.YthlhmijgbjcloaaGOpen
import Derived.Test.YthlhmijgbjcloaaGKp
import Derived.Test.YthlhmijgbjcloaaGRefSub
import Derived.Test.YthlhmijgbjcloaaGSwap
import Derived.Test.YthlhmijgbjcloaaGWFour
import Derived.Test.YthlhmijgbjcloaaGWEqStruct
import Derived.Test.YthlhmijgbjcloaaGWRepsOne
import Derived.Test.YthlhmijgbjcloaaGWGuard
set_option linter.unusedVariables false
set_option linter.unusedSimpArgs false
section
namespace Go.Proofs.Ythlhmijgbjcloaa.A
open Go.RowKit Go.Proofs.YthlhmijgbjcloaaW.PrintWords Go.Proofs.YthlhmijgbjcloaaW.PrintLast Go.Proofs.YthlhmijgbjcloaaW.PrintMore
attribute [local go_sem] max2_int min2_int max_two min_two max_three min_three max_four min_four   -- for this text's walks alone
def errW : Option Int→Value
 | none => .nilIface
 | some c => .iface 0 (.int .i64 c)
theorem errW_none : errW none = .nilIface:=rfl
theorem errW_some (c : Int) : errW (some c) = .iface 0 (.int .i64 c):=rfl
structure S35 where
  f0 : Int
  f1 : Int
  f2 : Int
  f3 : Int
def z35 : S35:=⟨(0 : Int),(0 : Int),(0 : Int),(0 : Int)⟩
def k35 : Kd S35:=Kd.iso (Kd.pair (Kd.int .i64) (Kd.pair (Kd.int .i64) (Kd.pair (Kd.int .i64) (Kd.int .i64)))) (fun x : S35 => (x.f0,x.f1,x.f2,x.f3))
theorem k35_open {w : World} {x : S35} {cs : List Value} (h : k35.K w x cs) : cs = [.int .i64 x.f0,.int .i64 x.f1,.int .i64 x.f2,.int .i64 x.f3]:=by
 obtain ⟨_,_,rfl,rfl,⟨_,_,rfl,rfl,⟨_,_,rfl,rfl,rfl⟩⟩⟩:=h
 exact rfl
theorem k35_mkM (w : World) (base : Nat) (ok : Nat→Prop) (x : S35)  : k35.M w base ok x [.int .i64 x.f0,.int .i64 x.f1,.int .i64 x.f2,.int .i64 x.f3]:=⟨[.int .i64 x.f0],[.int .i64 x.f1,.int .i64 x.f2,.int .i64 x.f3],rfl,rfl,⟨[.int .i64 x.f1],[.int .i64 x.f2,.int .i64 x.f3],rfl,rfl,⟨[.int .i64 x.f2],[.int .i64 x.f3],rfl,rfl,rfl⟩⟩⟩
def rd_T35 (xs : List S35) (i : Int) : S35:=xs.getD i.toNat z35
theorem at_T35 {w : World} {A : Option Addr} {n : Nat} {xs : List S35} (h : Kd.C k35 w A n xs) (i : Int) (h0 : 0 ≤ i) (h1 : i < n) : ∃ ad ,A = some ad∧w.cell? (ad.add (i.toNat * 4)) = some (.int .i64 (rd_T35 xs i).f0)∧w.cell? ⟨(ad.add (i.toNat * 4)).block,(ad.add (i.toNat * 4)).off+1,none⟩ = some (.int .i64 (rd_T35 xs i).f1)∧w.cell? ⟨(ad.add (i.toNat * 4)).block,(ad.add (i.toNat * 4)).off+2,none⟩ = some (.int .i64 (rd_T35 xs i).f2)∧w.cell? ⟨(ad.add (i.toNat * 4)).block,(ad.add (i.toNat * 4)).off+3,none⟩ = some (.int .i64 (rd_T35 xs i).f3):=by
 obtain ⟨ad,c,e,_,hK,hc0⟩:=Kd.C_get h z35 i h0 h1
 have hc : ∀ j u,c[j]? = some u→w.cell? (ad.add (i.toNat * 4+j)) = some u:=hc0
 obtain rfl:=k35_open hK
 exact ⟨ad,e,hc 0 _ rfl,by rw [← add_field _ _ 1 (by omega)];exact hc 1 _ rfl,by rw [← add_field _ _ 2 (by omega)];exact hc 2 _ rfl,by rw [← add_field _ _ 3 (by omega)];exact hc 3 _ rfl⟩
structure S25 where
  f0 : Int
  f1 : Int
structure S79 where
  f0 : S25
  f1 : S25
end Go.Proofs.Ythlhmijgbjcloaa.A
end
section
namespace Go.Proofs.Ythlhmijgbjcloaa.A
open Go.RowKit Go.Proofs.YthlhmijgbjcloaaW.PrintWords Go.Proofs.YthlhmijgbjcloaaW.PrintLast Go.Proofs.YthlhmijgbjcloaaW.PrintMore
attribute [local go_sem] max2_int min2_int max_two min_two max_three min_three max_four min_four   -- for this text's walks alone
theorem eqA25 (d : Nat) (w : World) (x0 y0 : Int) (x1 y1 : Int) :
    (Op.equalIn (d + 2) 25 (.agg #[.int .u64 x0, .int .u64 x1]) (.agg #[.int .u64 y0, .int .u64 y1])).run Try.prog w = .ok (x0 == y0 && (x1 == y1)) w := by
  refine eqA_of Try.underlying25 (by kernel_rfl) ?_
  refine eqf_cons (by rfl) (by go_simp; rfl) (by go_simp; rfl) (by go_simp) ?_
  exact eqf_last (by rfl) (by go_simp; rfl) (by go_simp; rfl) (by go_simp)
end Go.Proofs.Ythlhmijgbjcloaa.A
end
section
namespace Go.Proofs.Ythlhmijgbjcloaa.A
open Go.RowKit Go.Proofs.YthlhmijgbjcloaaW.PrintWords Go.Proofs.YthlhmijgbjcloaaW.PrintLast Go.Proofs.YthlhmijgbjcloaaW.PrintMore
attribute [local go_sem] max2_int min2_int max_two min_two max_three min_three max_four min_four   -- for this text's walks alone
def key_box.f (a0_0 : Int) (a0_1 : Int) (a0_2 : Int) (a0_3 : Int) : Option (Bool) := if a0_0 ≤ a0_1 then (some (decide (a0_2 ≤ a0_3))) else (some false)
set_option maxHeartbeats 8000000 in
set_option maxRecDepth 100000 in
theorem key_box.calls (a0_0 : Int) (a0_1 : Int) (a0_2 : Int) (a0_3 : Int) (r : Bool) (w : World) (h : key_box.f a0_0 a0_1 a0_2 a0_3 = some r) :
  Calls Try.prog 57 #[.agg #[.int .i64 a0_0,.int .i64 a0_1,.int .i64 a0_2,.int .i64 a0_3]] w fun e w' => e = .returned (.bool r)∧Below w.heap.size w w':=by
 have hu35:=Try.underlying35
 have HB:=Ak (Below.refl w.heap.size w)
 have H : (if a0_0 ≤ a0_1 then (some (decide (a0_2 ≤ a0_3))) else (some false)) = some r:=h
 clear h
 by_cases c2 : a0_0 ≤ a0_1
 ·rw [if_pos c2] at H
  have c2b0 : decide (a0_0 ≤ a0_1) = true:=decide_eq_true c2
  clear c2
  obtain rfl:=Option.some.inj H
  go_enter Try.func57,Try.ntmps57
  go_wp2_with (first|((with_reducible refine gate_dst (N:=1) rfl ?_);refine box_event ?hg (N:=1) ?hd (cs:=#[.int .i64 a0_0,.int .i64 a0_1,.int .i64 a0_2,.int .i64 a0_3]) (t:=35) ?hr ?_;(case hd => rfl);(case hg => rfl);(case hr => first|(go_simp;done)|(go_simp;rfl));intro gb101 hg w3 hbox hb;have n0_:=Kh HB hb;have n1_:=Ak (hbox);have n2_:=Ak ((by rw [hg];exact (below_size HB.out) : w.heap.size ≤ gb101));have n3_:=Ak ((by rw [hg];exact (below_size HB.out) : w.heap.size ≤ gb101));clear HB;have HB:=n0_;have BK101:=n1_;have GW101:=n2_;have GE101:=n3_;clear n0_ n1_ n2_ n3_;clear hb hbox hg;have hcz4_0 : w3.cell? ⟨gb101,0,none⟩ = some (.int .i64 a0_0):=(kC BK101.out 0).trans rfl;have hcz4_1 : w3.cell? ⟨gb101,1,none⟩ = some (.int .i64 a0_1):=(kC BK101.out 1).trans rfl;have hcz4_2 : w3.cell? ⟨gb101,2,none⟩ = some (.int .i64 a0_2):=(kC BK101.out 2).trans rfl;have hcz4_3 : w3.cell? ⟨gb101,3,none⟩ = some (.int .i64 a0_3):=(kC BK101.out 3).trans rfl;have hfz4_0:=blk_frozen BK101.out 0;have hfz4_1:=blk_frozen BK101.out 1;have hfz4_2:=blk_frozen BK101.out 2;have hfz4_3:=blk_frozen BK101.out 3))
  go_ret
  exact ⟨by first|rfl|(simp [errW_none,errW_some] <;> rfl)|(simp [*,errW_none,errW_some] <;> rfl),by repeat (first|(with_reducible first|exact HB.out|apply bA|apply bN|apply bD|refine bS ?_ GE101.out)|exact HB.out)⟩
 ·rw [if_neg c2] at H
  have c2b0 : decide (a0_0 ≤ a0_1) = false:=decide_eq_false c2
  clear c2
  obtain rfl:=Option.some.inj H
  go_enter Try.func57,Try.ntmps57
  go_wp2_with (first|((with_reducible refine gate_dst (N:=1) rfl ?_);refine box_event ?hg (N:=1) ?hd (cs:=#[.int .i64 a0_0,.int .i64 a0_1,.int .i64 a0_2,.int .i64 a0_3]) (t:=35) ?hr ?_;(case hd => rfl);(case hg => rfl);(case hr => first|(go_simp;done)|(go_simp;rfl));intro gb101 hg w5 hbox hb;have n0_:=Kh HB hb;have n1_:=Ak (hbox);have n2_:=Ak ((by rw [hg];exact (below_size HB.out) : w.heap.size ≤ gb101));have n3_:=Ak ((by rw [hg];exact (below_size HB.out) : w.heap.size ≤ gb101));clear HB;have HB:=n0_;have BK101:=n1_;have GW101:=n2_;have GE101:=n3_;clear n0_ n1_ n2_ n3_;clear hb hbox hg;have hcz6_0 : w5.cell? ⟨gb101,0,none⟩ = some (.int .i64 a0_0):=(kC BK101.out 0).trans rfl;have hcz6_1 : w5.cell? ⟨gb101,1,none⟩ = some (.int .i64 a0_1):=(kC BK101.out 1).trans rfl;have hcz6_2 : w5.cell? ⟨gb101,2,none⟩ = some (.int .i64 a0_2):=(kC BK101.out 2).trans rfl;have hcz6_3 : w5.cell? ⟨gb101,3,none⟩ = some (.int .i64 a0_3):=(kC BK101.out 3).trans rfl;have hfz6_0:=blk_frozen BK101.out 0;have hfz6_1:=blk_frozen BK101.out 1;have hfz6_2:=blk_frozen BK101.out 2;have hfz6_3:=blk_frozen BK101.out 3))
  go_ret
  exact ⟨by first|rfl|(simp [errW_none,errW_some] <;> rfl)|(simp [*,errW_none,errW_some] <;> rfl),by repeat (first|(with_reducible first|exact HB.out|apply bA|apply bN|apply bD|refine bS ?_ GE101.out)|exact HB.out)⟩
def key_Union.f (a0_0 : Int) (a0_1 : Int) (a0_2 : Int) (a0_3 : Int) (a1_0 : Int) (a1_1 : Int) (a1_2 : Int) (a1_3 : Int) : Option (Int × Int × Int × Int) := (key_box.f a0_0 a0_1 a0_2 a0_3).bind fun t105 => (if t105 = true then ((key_box.f a1_0 a1_1 a1_2 a1_3).bind fun t106 => (if t106 = true then (some (mn a0_0 a1_0, mx a0_1 a1_1, mn a0_2 a1_2, mx a0_3 a1_3)) else (some (0, 0, 0, 0)))) else (some (0, 0, 0, 0)))
set_option maxHeartbeats 8000000 in
set_option maxRecDepth 100000 in
theorem key_Union.calls (a0_0 : Int) (a0_1 : Int) (a0_2 : Int) (a0_3 : Int) (a1_0 : Int) (a1_1 : Int) (a1_2 : Int) (a1_3 : Int) (r1 : Int) (r2 : Int) (r3 : Int) (r4 : Int) (w : World) (h : key_Union.f a0_0 a0_1 a0_2 a0_3 a1_0 a1_1 a1_2 a1_3 = some (r1,r2,r3,r4)) :
  Calls Try.prog 40 #[.agg #[.int .i64 a0_0,.int .i64 a0_1,.int .i64 a0_2,.int .i64 a0_3],.agg #[.int .i64 a1_0,.int .i64 a1_1,.int .i64 a1_2,.int .i64 a1_3]] w fun e w' => e = .returned (.agg #[.int .i64 r1,.int .i64 r2,.int .i64 r3,.int .i64 r4])∧Below w.heap.size w w':=by
 have hu35:=Try.underlying35
 have HB:=Ak (Below.refl w.heap.size w)
 have H : ((key_box.f a0_0 a0_1 a0_2 a0_3).bind fun t105 => (if t105 = true then ((key_box.f a1_0 a1_1 a1_2 a1_3).bind fun t106 => (if t106 = true then (some (mn a0_0 a1_0,mx a0_1 a1_1,mn a0_2 a1_2,mx a0_3 a1_3)) else (some (0,0,0,0)))) else (some (0,0,0,0)))) = some (r1,r2,r3,r4):=h
 clear h
 replace H:=Option.bind_eq_some_iff.mp H
 obtain ⟨t105,A30,H⟩:=H
 replace H : (if t105 = true then ((key_box.f a1_0 a1_1 a1_2 a1_3).bind fun t106 => (if t106 = true then (some (mn a0_0 a1_0,mx a0_1 a1_1,mn a0_2 a1_2,mx a0_3 a1_3)) else (some (0,0,0,0)))) else (some (0,0,0,0))) = some (r1,r2,r3,r4):=H
 have A3:=Ak A30
 clear A30
 by_cases c4 : t105 = true
 ·subst c4
  have H1 : ((key_box.f a1_0 a1_1 a1_2 a1_3).bind fun t106 => (if t106 = true then (some (mn a0_0 a1_0,mx a0_1 a1_1,mn a0_2 a1_2,mx a0_3 a1_3)) else (some (0,0,0,0)))) = some (r1,r2,r3,r4):=by rw [if_pos rfl] at H;exact H
  clear H
  have H:=H1
  clear H1
  replace H:=Option.bind_eq_some_iff.mp H
  obtain ⟨t106,A50,H⟩:=H
  replace H : (if t106 = true then (some (mn a0_0 a1_0,mx a0_1 a1_1,mn a0_2 a1_2,mx a0_3 a1_3)) else (some (0,0,0,0))) = some (r1,r2,r3,r4):=H
  have A5:=Ak A50
  clear A50
  by_cases c6 : t106 = true
  ·subst c6
   have H1 : (some (mn a0_0 a1_0,mx a0_1 a1_1,mn a0_2 a1_2,mx a0_3 a1_3)) = some (r1,r2,r3,r4):=by rw [if_pos rfl] at H;exact H
   clear H
   have H:=H1
   clear H1
   obtain ⟨ji7,hji7⟩ : ∃ j_ : Int,(mn a0_0 a1_0) = j_:=⟨_,rfl⟩
   replace H : (some (ji7,mx a0_1 a1_1,mn a0_2 a1_2,mx a0_3 a1_3)) = some (r1,r2,r3,r4):=by first|(rw [hji7] at H;exact H)|(simp only [hji7] at H ⊢;exact H)
   (try rw [hji7] at A3)
   (try rw [hji7] at A5)
   have hji7_ : (if a1_0 < a0_0 then a1_0 else a0_0) = ji7:=hji7
   obtain ⟨ji8,hji8⟩ : ∃ j_ : Int,(mx a0_1 a1_1) = j_:=⟨_,rfl⟩
   replace H : (some (ji7,ji8,mn a0_2 a1_2,mx a0_3 a1_3)) = some (r1,r2,r3,r4):=by first|(rw [hji8] at H;exact H)|(simp only [hji8] at H ⊢;exact H)
   (try rw [hji8] at A3)
   (try rw [hji8] at A5)
   have hji8_ : (if a0_1 < a1_1 then a1_1 else a0_1) = ji8:=hji8
   obtain ⟨ji9,hji9⟩ : ∃ j_ : Int,(mn a0_2 a1_2) = j_:=⟨_,rfl⟩
   replace H : (some (ji7,ji8,ji9,mx a0_3 a1_3)) = some (r1,r2,r3,r4):=by first|(rw [hji9] at H;exact H)|(simp only [hji9] at H ⊢;exact H)
   (try rw [hji9] at A3)
   (try rw [hji9] at A5)
   have hji9_ : (if a1_2 < a0_2 then a1_2 else a0_2) = ji9:=hji9
   obtain ⟨ji10,hji10⟩ : ∃ j_ : Int,(mx a0_3 a1_3) = j_:=⟨_,rfl⟩
   replace H : (some (ji7,ji8,ji9,ji10)) = some (r1,r2,r3,r4):=by first|(rw [hji10] at H;exact H)|(simp only [hji10] at H ⊢;exact H)
   (try rw [hji10] at A3)
   (try rw [hji10] at A5)
   have hji10_ : (if a0_3 < a1_3 then a1_3 else a0_3) = ji10:=hji10
   simp only [Option.some.injEq,Prod.mk.injEq] at H
   obtain ⟨rfl,rfl,rfl,rfl⟩:=H
   go_enter Try.func40,Try.ntmps40
   go_wp2_with (first|((with_reducible refine gate_dst (N:=2) rfl ?_);refine box_event ?hg (N:=2) ?hd (cs:=#[.int .i64 a0_0,.int .i64 a0_1,.int .i64 a0_2,.int .i64 a0_3]) (t:=35) ?hr ?_;(case hd => rfl);(case hg => rfl);(case hr => first|(go_simp;done)|(go_simp;rfl));intro gb102 hg w11 hbox hb;have n0_:=Kh HB hb;have n1_:=Ak (hbox);have n2_:=Ak ((by rw [hg];exact (below_size HB.out) : w.heap.size ≤ gb102));have n3_:=Ak ((by rw [hg];exact (below_size HB.out) : w.heap.size ≤ gb102));clear HB;have HB:=n0_;have BK102:=n1_;have GW102:=n2_;have GE102:=n3_;clear n0_ n1_ n2_ n3_;clear hb hbox hg)|((with_reducible refine gate_dst (N:=3) rfl ?_);refine box_event ?hg (N:=3) ?hd (cs:=#[.int .i64 a1_0,.int .i64 a1_1,.int .i64 a1_2,.int .i64 a1_3]) (t:=35) ?hr ?_;(case hd => rfl);(case hg => rfl);(case hr => first|(go_simp;done)|(go_simp;rfl));intro gb103 hg w12 hbox hb;have n0_:=Kb BK102 hb;have n1_:=Kh HB hb;have n2_:=Ak (hbox);have n3_:=Ak ((by rw [hg];exact (below_size HB.out) : w.heap.size ≤ gb103));have n4_:=Ak ((by rw [hg];exact (below_size HB.out) : w.heap.size ≤ gb103));have n5_:=Ak ((by rw [hg];exact Nat.ne_of_lt (blk_lt (g:=gb102) (o:=.cells #[.int .i64 a0_0,.int .i64 a0_1,.int .i64 a0_2,.int .i64 a0_3] 35 (0,0)) BK102.out) : gb102 ≠ gb103));have n6_:=Ak ((by rw [hg];exact Nat.ne_of_gt (blk_lt (g:=gb102) (o:=.cells #[.int .i64 a0_0,.int .i64 a0_1,.int .i64 a0_2,.int .i64 a0_3] 35 (0,0)) BK102.out) : gb103 ≠ gb102));clear BK102;clear HB;have BK102:=n0_;have HB:=n1_;have BK103:=n2_;have GW103:=n3_;have GE103:=n4_;have NB102_103:=n5_;have NB103_102:=n6_;clear n0_ n1_ n2_ n3_ n4_ n5_ n6_;clear hb hbox hg)|((with_reducible refine gate_dst (N:=4) rfl ?_);refine box_event ?hg (N:=4) ?hd (cs:=#[.int .i64 0,.int .i64 0,.int .i64 0,.int .i64 0]) (t:=35) ?hr ?_;(case hd => rfl);(case hg => rfl);(case hr => first|(go_simp;done)|(go_simp;rfl));intro gb104 hg w13 hbox hb;have n0_:=Kb BK102 hb;have n1_:=Kb BK103 hb;have n2_:=Kh HB hb;have n3_:=Ak (hbox);have n4_:=Ak ((by rw [hg];exact (below_size HB.out) : w.heap.size ≤ gb104));have n5_:=Ak ((by rw [hg];exact (below_size HB.out) : w.heap.size ≤ gb104));have n6_:=Ak ((by rw [hg];exact Nat.ne_of_lt (blk_lt (g:=gb102) (o:=.cells #[.int .i64 a0_0,.int .i64 a0_1,.int .i64 a0_2,.int .i64 a0_3] 35 (0,0)) BK102.out) : gb102 ≠ gb104));have n7_:=Ak ((by rw [hg];exact Nat.ne_of_gt (blk_lt (g:=gb102) (o:=.cells #[.int .i64 a0_0,.int .i64 a0_1,.int .i64 a0_2,.int .i64 a0_3] 35 (0,0)) BK102.out) : gb104 ≠ gb102));have n8_:=Ak ((by rw [hg];exact Nat.ne_of_lt (blk_lt (g:=gb103) (o:=.cells #[.int .i64 a1_0,.int .i64 a1_1,.int .i64 a1_2,.int .i64 a1_3] 35 (0,0)) BK103.out) : gb103 ≠ gb104));have n9_:=Ak ((by rw [hg];exact Nat.ne_of_gt (blk_lt (g:=gb103) (o:=.cells #[.int .i64 a1_0,.int .i64 a1_1,.int .i64 a1_2,.int .i64 a1_3] 35 (0,0)) BK103.out) : gb104 ≠ gb103));clear BK102;clear BK103;clear HB;have BK102:=n0_;have BK103:=n1_;have HB:=n2_;have BK104:=n3_;have GW104:=n4_;have GE104:=n5_;have NB102_104:=n6_;have NB104_102:=n7_;have NB103_104:=n8_;have NB104_103:=n9_;clear n0_ n1_ n2_ n3_ n4_ n5_ n6_ n7_ n8_ n9_;clear hb hbox hg;have hnb14:=NB102_103.out;have hnc14:=NB103_102.out;have hnb15:=NB102_104.out;have hnc15:=NB104_102.out;have hcz16_0 : w13.cell? ⟨gb102,0,none⟩ = some (.int .i64 a0_0):=(kC BK102.out 0).trans rfl;have hcz16_1 : w13.cell? ⟨gb102,1,none⟩ = some (.int .i64 a0_1):=(kC BK102.out 1).trans rfl;have hcz16_2 : w13.cell? ⟨gb102,2,none⟩ = some (.int .i64 a0_2):=(kC BK102.out 2).trans rfl;have hcz16_3 : w13.cell? ⟨gb102,3,none⟩ = some (.int .i64 a0_3):=(kC BK102.out 3).trans rfl;have hfz16_0:=blk_frozen BK102.out 0;have hfz16_1:=blk_frozen BK102.out 1;have hfz16_2:=blk_frozen BK102.out 2;have hfz16_3:=blk_frozen BK102.out 3)|((with_reducible refine gate_callee (f:=57) rfl ?_);refine goesL_ (some 6) rfl rfl Try.func57 (by kernel_rfl) rfl #[.agg #[.int .i64 a0_0,.int .i64 a0_1,.int .i64 a0_2,.int .i64 a0_3]] rfl (by (try simp only [List.map_toArray,List.map_cons,List.map_nil]);first|done|rfl|(simp only [List.length_drop,List.length_take];rfl)) ?_;(with_reducible refine (key_box.calls a0_0 a0_1 a0_2 a0_3 true _ A3.out).mono ?_);rintro e w17 ⟨rfl,hb⟩;refine ⟨_,rfl,?_⟩;have n0_:=Kb BK102 hb;have n1_:=Kb BK103 hb;have n2_:=Kb BK104 hb;have n3_:=Kh HB hb;clear BK102;clear BK103;clear BK104;clear HB;have BK102:=n0_;have BK103:=n1_;have BK104:=n2_;have HB:=n3_;clear n0_ n1_ n2_ n3_;(try clear hb);(try clear hb2);(try clear hk);(try clear hi);have hnb18:=NB103_104.out;have hnc18:=NB104_103.out;have hcz19_0 : w17.cell? ⟨gb103,0,none⟩ = some (.int .i64 a1_0):=(kC BK103.out 0).trans rfl;have hcz19_1 : w17.cell? ⟨gb103,1,none⟩ = some (.int .i64 a1_1):=(kC BK103.out 1).trans rfl;have hcz19_2 : w17.cell? ⟨gb103,2,none⟩ = some (.int .i64 a1_2):=(kC BK103.out 2).trans rfl;have hcz19_3 : w17.cell? ⟨gb103,3,none⟩ = some (.int .i64 a1_3):=(kC BK103.out 3).trans rfl;have hfz19_0:=blk_frozen BK103.out 0;have hfz19_1:=blk_frozen BK103.out 1;have hfz19_2:=blk_frozen BK103.out 2;have hfz19_3:=blk_frozen BK103.out 3)|(go_at_call 57;(with_reducible refine (key_box.calls a1_0 a1_1 a1_2 a1_3 true _ A5.out).mono ?_);rintro e w20 ⟨rfl,hb⟩;have n0_:=Kb BK102 hb;have n1_:=Kb BK103 hb;have n2_:=Kb BK104 hb;have n3_:=Kh HB hb;clear BK102;clear BK103;clear BK104;clear HB;have BK102:=n0_;have BK103:=n1_;have BK104:=n2_;have HB:=n3_;clear n0_ n1_ n2_ n3_;(try clear hb);(try clear hb2);(try clear hk);(try clear hi);have hcz21_0 : w20.cell? ⟨gb102,0,none⟩ = some (.int .i64 a0_0):=(kC BK102.out 0).trans rfl;have hcz21_1 : w20.cell? ⟨gb102,1,none⟩ = some (.int .i64 a0_1):=(kC BK102.out 1).trans rfl;have hcz21_2 : w20.cell? ⟨gb102,2,none⟩ = some (.int .i64 a0_2):=(kC BK102.out 2).trans rfl;have hcz21_3 : w20.cell? ⟨gb102,3,none⟩ = some (.int .i64 a0_3):=(kC BK102.out 3).trans rfl;have hfz21_0:=blk_frozen BK102.out 0;have hfz21_1:=blk_frozen BK102.out 1;have hfz21_2:=blk_frozen BK102.out 2;have hfz21_3:=blk_frozen BK102.out 3;have hcz22_0 : w20.cell? ⟨gb103,0,none⟩ = some (.int .i64 a1_0):=(kC BK103.out 0).trans rfl;have hcz22_1 : w20.cell? ⟨gb103,1,none⟩ = some (.int .i64 a1_1):=(kC BK103.out 1).trans rfl;have hcz22_2 : w20.cell? ⟨gb103,2,none⟩ = some (.int .i64 a1_2):=(kC BK103.out 2).trans rfl;have hcz22_3 : w20.cell? ⟨gb103,3,none⟩ = some (.int .i64 a1_3):=(kC BK103.out 3).trans rfl;have hfz22_0:=blk_frozen BK103.out 0;have hfz22_1:=blk_frozen BK103.out 1;have hfz22_2:=blk_frozen BK103.out 2;have hfz22_3:=blk_frozen BK103.out 3;have hcz23_0 : w20.cell? ⟨gb104,0,none⟩ = some (.int .i64 0):=(kC BK104.out 0).trans rfl;have hcz23_1 : w20.cell? ⟨gb104,1,none⟩ = some (.int .i64 0):=(kC BK104.out 1).trans rfl;have hcz23_2 : w20.cell? ⟨gb104,2,none⟩ = some (.int .i64 0):=(kC BK104.out 2).trans rfl;have hcz23_3 : w20.cell? ⟨gb104,3,none⟩ = some (.int .i64 0):=(kC BK104.out 3).trans rfl;have hfz23_0:=blk_frozen BK104.out 0;have hfz23_1:=blk_frozen BK104.out 1;have hfz23_2:=blk_frozen BK104.out 2;have hfz23_3:=blk_frozen BK104.out 3))
   refine bodyPost_ret (results_cell_row rfl _ _ gb104 35 #[.int .i64 ji7,.int .i64 ji8,.int .i64 ji9,.int .i64 ji10] (0,0) _ rfl (by (with_reducible repeat (first|refine kN ?_ _|refine kD ?_|refine kA ?_ _));refine blk_put (cs:=#[.int .i64 ji7,.int .i64 ji8,.int .i64 ji9,.int .i64 0]) ?_ 3 _ rfl;(with_reducible repeat (first|refine kN ?_ _|refine kD ?_|refine kA ?_ _));refine blk_put (cs:=#[.int .i64 ji7,.int .i64 ji8,.int .i64 0,.int .i64 0]) ?_ 2 _ rfl;(with_reducible repeat (first|refine kN ?_ _|refine kD ?_|refine kA ?_ _));refine blk_put (cs:=#[.int .i64 ji7,.int .i64 0,.int .i64 0,.int .i64 0]) ?_ 1 _ rfl;(with_reducible repeat (first|refine kN ?_ _|refine kD ?_|refine kA ?_ _));refine blk_put (cs:=#[.int .i64 0,.int .i64 0,.int .i64 0,.int .i64 0]) ?_ 0 _ rfl;(with_reducible repeat (first|refine kN ?_ _|refine kD ?_|refine kA ?_ _));exact BK104.out) Try.underlying35 rfl (by kernel_rfl)) rfl ?_
   exact ⟨by first|rfl|(simp [errW_none,errW_some] <;> rfl)|(simp only [← hji7,← hji8,← hji9,← hji10];first|rfl|(simp [errW_none,errW_some] <;> rfl))|(simp [*,errW_none,errW_some] <;> rfl),by repeat (first|(with_reducible first|exact HB.out|apply bA|apply bN|apply bD|refine bS ?_ GE102.out|refine bS ?_ GE103.out|refine bS ?_ GE104.out)|exact HB.out)⟩
  ·replace c6:=Bool.eq_false_iff.mpr c6
   subst c6
   have H1 : (some (0,0,0,0)) = some (r1,r2,r3,r4):=by rw [if_neg (show ¬ (false = true) by decide)] at H;exact H
   clear H
   have H:=H1
   clear H1
   simp only [Option.some.injEq,Prod.mk.injEq] at H
   obtain ⟨rfl,rfl,rfl,rfl⟩:=H
   go_enter Try.func40,Try.ntmps40
   go_wp2_with (first|((with_reducible refine gate_dst (N:=2) rfl ?_);refine box_event ?hg (N:=2) ?hd (cs:=#[.int .i64 a0_0,.int .i64 a0_1,.int .i64 a0_2,.int .i64 a0_3]) (t:=35) ?hr ?_;(case hd => rfl);(case hg => rfl);(case hr => first|(go_simp;done)|(go_simp;rfl));intro gb102 hg w24 hbox hb;have n0_:=Kh HB hb;have n1_:=Ak (hbox);have n2_:=Ak ((by rw [hg];exact (below_size HB.out) : w.heap.size ≤ gb102));have n3_:=Ak ((by rw [hg];exact (below_size HB.out) : w.heap.size ≤ gb102));clear HB;have HB:=n0_;have BK102:=n1_;have GW102:=n2_;have GE102:=n3_;clear n0_ n1_ n2_ n3_;clear hb hbox hg)|((with_reducible refine gate_dst (N:=3) rfl ?_);refine box_event ?hg (N:=3) ?hd (cs:=#[.int .i64 a1_0,.int .i64 a1_1,.int .i64 a1_2,.int .i64 a1_3]) (t:=35) ?hr ?_;(case hd => rfl);(case hg => rfl);(case hr => first|(go_simp;done)|(go_simp;rfl));intro gb103 hg w25 hbox hb;have n0_:=Kb BK102 hb;have n1_:=Kh HB hb;have n2_:=Ak (hbox);have n3_:=Ak ((by rw [hg];exact (below_size HB.out) : w.heap.size ≤ gb103));have n4_:=Ak ((by rw [hg];exact (below_size HB.out) : w.heap.size ≤ gb103));have n5_:=Ak ((by rw [hg];exact Nat.ne_of_lt (blk_lt (g:=gb102) (o:=.cells #[.int .i64 a0_0,.int .i64 a0_1,.int .i64 a0_2,.int .i64 a0_3] 35 (0,0)) BK102.out) : gb102 ≠ gb103));have n6_:=Ak ((by rw [hg];exact Nat.ne_of_gt (blk_lt (g:=gb102) (o:=.cells #[.int .i64 a0_0,.int .i64 a0_1,.int .i64 a0_2,.int .i64 a0_3] 35 (0,0)) BK102.out) : gb103 ≠ gb102));clear BK102;clear HB;have BK102:=n0_;have HB:=n1_;have BK103:=n2_;have GW103:=n3_;have GE103:=n4_;have NB102_103:=n5_;have NB103_102:=n6_;clear n0_ n1_ n2_ n3_ n4_ n5_ n6_;clear hb hbox hg)|((with_reducible refine gate_dst (N:=4) rfl ?_);refine box_event ?hg (N:=4) ?hd (cs:=#[.int .i64 0,.int .i64 0,.int .i64 0,.int .i64 0]) (t:=35) ?hr ?_;(case hd => rfl);(case hg => rfl);(case hr => first|(go_simp;done)|(go_simp;rfl));intro gb104 hg w26 hbox hb;have n0_:=Kb BK102 hb;have n1_:=Kb BK103 hb;have n2_:=Kh HB hb;have n3_:=Ak (hbox);have n4_:=Ak ((by rw [hg];exact (below_size HB.out) : w.heap.size ≤ gb104));have n5_:=Ak ((by rw [hg];exact (below_size HB.out) : w.heap.size ≤ gb104));have n6_:=Ak ((by rw [hg];exact Nat.ne_of_lt (blk_lt (g:=gb102) (o:=.cells #[.int .i64 a0_0,.int .i64 a0_1,.int .i64 a0_2,.int .i64 a0_3] 35 (0,0)) BK102.out) : gb102 ≠ gb104));have n7_:=Ak ((by rw [hg];exact Nat.ne_of_gt (blk_lt (g:=gb102) (o:=.cells #[.int .i64 a0_0,.int .i64 a0_1,.int .i64 a0_2,.int .i64 a0_3] 35 (0,0)) BK102.out) : gb104 ≠ gb102));have n8_:=Ak ((by rw [hg];exact Nat.ne_of_lt (blk_lt (g:=gb103) (o:=.cells #[.int .i64 a1_0,.int .i64 a1_1,.int .i64 a1_2,.int .i64 a1_3] 35 (0,0)) BK103.out) : gb103 ≠ gb104));have n9_:=Ak ((by rw [hg];exact Nat.ne_of_gt (blk_lt (g:=gb103) (o:=.cells #[.int .i64 a1_0,.int .i64 a1_1,.int .i64 a1_2,.int .i64 a1_3] 35 (0,0)) BK103.out) : gb104 ≠ gb103));clear BK102;clear BK103;clear HB;have BK102:=n0_;have BK103:=n1_;have HB:=n2_;have BK104:=n3_;have GW104:=n4_;have GE104:=n5_;have NB102_104:=n6_;have NB104_102:=n7_;have NB103_104:=n8_;have NB104_103:=n9_;clear n0_ n1_ n2_ n3_ n4_ n5_ n6_ n7_ n8_ n9_;clear hb hbox hg;have hnb27:=NB102_103.out;have hnc27:=NB103_102.out;have hnb28:=NB102_104.out;have hnc28:=NB104_102.out;have hcz29_0 : w26.cell? ⟨gb102,0,none⟩ = some (.int .i64 a0_0):=(kC BK102.out 0).trans rfl;have hcz29_1 : w26.cell? ⟨gb102,1,none⟩ = some (.int .i64 a0_1):=(kC BK102.out 1).trans rfl;have hcz29_2 : w26.cell? ⟨gb102,2,none⟩ = some (.int .i64 a0_2):=(kC BK102.out 2).trans rfl;have hcz29_3 : w26.cell? ⟨gb102,3,none⟩ = some (.int .i64 a0_3):=(kC BK102.out 3).trans rfl;have hfz29_0:=blk_frozen BK102.out 0;have hfz29_1:=blk_frozen BK102.out 1;have hfz29_2:=blk_frozen BK102.out 2;have hfz29_3:=blk_frozen BK102.out 3)|((with_reducible refine gate_callee (f:=57) rfl ?_);refine goesL_ (some 6) rfl rfl Try.func57 (by kernel_rfl) rfl #[.agg #[.int .i64 a0_0,.int .i64 a0_1,.int .i64 a0_2,.int .i64 a0_3]] rfl (by (try simp only [List.map_toArray,List.map_cons,List.map_nil]);first|done|rfl|(simp only [List.length_drop,List.length_take];rfl)) ?_;(with_reducible refine (key_box.calls a0_0 a0_1 a0_2 a0_3 true _ A3.out).mono ?_);rintro e w30 ⟨rfl,hb⟩;refine ⟨_,rfl,?_⟩;have n0_:=Kb BK102 hb;have n1_:=Kb BK103 hb;have n2_:=Kb BK104 hb;have n3_:=Kh HB hb;clear BK102;clear BK103;clear BK104;clear HB;have BK102:=n0_;have BK103:=n1_;have BK104:=n2_;have HB:=n3_;clear n0_ n1_ n2_ n3_;(try clear hb);(try clear hb2);(try clear hk);(try clear hi);have hnb31:=NB103_104.out;have hnc31:=NB104_103.out;have hcz32_0 : w30.cell? ⟨gb103,0,none⟩ = some (.int .i64 a1_0):=(kC BK103.out 0).trans rfl;have hcz32_1 : w30.cell? ⟨gb103,1,none⟩ = some (.int .i64 a1_1):=(kC BK103.out 1).trans rfl;have hcz32_2 : w30.cell? ⟨gb103,2,none⟩ = some (.int .i64 a1_2):=(kC BK103.out 2).trans rfl;have hcz32_3 : w30.cell? ⟨gb103,3,none⟩ = some (.int .i64 a1_3):=(kC BK103.out 3).trans rfl;have hfz32_0:=blk_frozen BK103.out 0;have hfz32_1:=blk_frozen BK103.out 1;have hfz32_2:=blk_frozen BK103.out 2;have hfz32_3:=blk_frozen BK103.out 3)|(go_at_call 57;(with_reducible refine (key_box.calls a1_0 a1_1 a1_2 a1_3 false _ A5.out).mono ?_);rintro e w33 ⟨rfl,hb⟩;have n0_:=Kb BK102 hb;have n1_:=Kb BK103 hb;have n2_:=Kb BK104 hb;have n3_:=Kh HB hb;clear BK102;clear BK103;clear BK104;clear HB;have BK102:=n0_;have BK103:=n1_;have BK104:=n2_;have HB:=n3_;clear n0_ n1_ n2_ n3_;(try clear hb);(try clear hb2);(try clear hk);(try clear hi);have hcz34_0 : w33.cell? ⟨gb104,0,none⟩ = some (.int .i64 0):=(kC BK104.out 0).trans rfl;have hcz34_1 : w33.cell? ⟨gb104,1,none⟩ = some (.int .i64 0):=(kC BK104.out 1).trans rfl;have hcz34_2 : w33.cell? ⟨gb104,2,none⟩ = some (.int .i64 0):=(kC BK104.out 2).trans rfl;have hcz34_3 : w33.cell? ⟨gb104,3,none⟩ = some (.int .i64 0):=(kC BK104.out 3).trans rfl;have hfz34_0:=blk_frozen BK104.out 0;have hfz34_1:=blk_frozen BK104.out 1;have hfz34_2:=blk_frozen BK104.out 2;have hfz34_3:=blk_frozen BK104.out 3))
   refine bodyPost_ret (results_cell_row rfl _ _ gb104 35 #[.int .i64 0,.int .i64 0,.int .i64 0,.int .i64 0] (0,0) _ rfl (by (with_reducible repeat (first|refine kN ?_ _|refine kD ?_|refine kA ?_ _));refine blk_put (cs:=#[.int .i64 0,.int .i64 0,.int .i64 0,.int .i64 0]) ?_ 3 _ rfl;(with_reducible repeat (first|refine kN ?_ _|refine kD ?_|refine kA ?_ _));refine blk_put (cs:=#[.int .i64 0,.int .i64 0,.int .i64 0,.int .i64 0]) ?_ 2 _ rfl;(with_reducible repeat (first|refine kN ?_ _|refine kD ?_|refine kA ?_ _));refine blk_put (cs:=#[.int .i64 0,.int .i64 0,.int .i64 0,.int .i64 0]) ?_ 1 _ rfl;(with_reducible repeat (first|refine kN ?_ _|refine kD ?_|refine kA ?_ _));refine blk_put (cs:=#[.int .i64 0,.int .i64 0,.int .i64 0,.int .i64 0]) ?_ 0 _ rfl;(with_reducible repeat (first|refine kN ?_ _|refine kD ?_|refine kA ?_ _));exact BK104.out) Try.underlying35 rfl (by kernel_rfl)) rfl ?_
   exact ⟨by first|rfl|(simp [errW_none,errW_some] <;> rfl)|(simp [*,errW_none,errW_some] <;> rfl),by repeat (first|(with_reducible first|exact HB.out|apply bA|apply bN|apply bD|refine bS ?_ GE102.out|refine bS ?_ GE103.out|refine bS ?_ GE104.out)|exact HB.out)⟩
 ·replace c4:=Bool.eq_false_iff.mpr c4
  subst c4
  have H1 : (some (0,0,0,0)) = some (r1,r2,r3,r4):=by rw [if_neg (show ¬ (false = true) by decide)] at H;exact H
  clear H
  have H:=H1
  clear H1
  simp only [Option.some.injEq,Prod.mk.injEq] at H
  obtain ⟨rfl,rfl,rfl,rfl⟩:=H
  go_enter Try.func40,Try.ntmps40
  go_wp2_with (first|((with_reducible refine gate_dst (N:=2) rfl ?_);refine box_event ?hg (N:=2) ?hd (cs:=#[.int .i64 a0_0,.int .i64 a0_1,.int .i64 a0_2,.int .i64 a0_3]) (t:=35) ?hr ?_;(case hd => rfl);(case hg => rfl);(case hr => first|(go_simp;done)|(go_simp;rfl));intro gb102 hg w35 hbox hb;have n0_:=Kh HB hb;have n1_:=Ak (hbox);have n2_:=Ak ((by rw [hg];exact (below_size HB.out) : w.heap.size ≤ gb102));have n3_:=Ak ((by rw [hg];exact (below_size HB.out) : w.heap.size ≤ gb102));clear HB;have HB:=n0_;have BK102:=n1_;have GW102:=n2_;have GE102:=n3_;clear n0_ n1_ n2_ n3_;clear hb hbox hg)|((with_reducible refine gate_dst (N:=3) rfl ?_);refine box_event ?hg (N:=3) ?hd (cs:=#[.int .i64 a1_0,.int .i64 a1_1,.int .i64 a1_2,.int .i64 a1_3]) (t:=35) ?hr ?_;(case hd => rfl);(case hg => rfl);(case hr => first|(go_simp;done)|(go_simp;rfl));intro gb103 hg w36 hbox hb;have n0_:=Kb BK102 hb;have n1_:=Kh HB hb;have n2_:=Ak (hbox);have n3_:=Ak ((by rw [hg];exact (below_size HB.out) : w.heap.size ≤ gb103));have n4_:=Ak ((by rw [hg];exact (below_size HB.out) : w.heap.size ≤ gb103));have n5_:=Ak ((by rw [hg];exact Nat.ne_of_lt (blk_lt (g:=gb102) (o:=.cells #[.int .i64 a0_0,.int .i64 a0_1,.int .i64 a0_2,.int .i64 a0_3] 35 (0,0)) BK102.out) : gb102 ≠ gb103));have n6_:=Ak ((by rw [hg];exact Nat.ne_of_gt (blk_lt (g:=gb102) (o:=.cells #[.int .i64 a0_0,.int .i64 a0_1,.int .i64 a0_2,.int .i64 a0_3] 35 (0,0)) BK102.out) : gb103 ≠ gb102));clear BK102;clear HB;have BK102:=n0_;have HB:=n1_;have BK103:=n2_;have GW103:=n3_;have GE103:=n4_;have NB102_103:=n5_;have NB103_102:=n6_;clear n0_ n1_ n2_ n3_ n4_ n5_ n6_;clear hb hbox hg)|((with_reducible refine gate_dst (N:=4) rfl ?_);refine box_event ?hg (N:=4) ?hd (cs:=#[.int .i64 0,.int .i64 0,.int .i64 0,.int .i64 0]) (t:=35) ?hr ?_;(case hd => rfl);(case hg => rfl);(case hr => first|(go_simp;done)|(go_simp;rfl));intro gb104 hg w37 hbox hb;have n0_:=Kb BK102 hb;have n1_:=Kb BK103 hb;have n2_:=Kh HB hb;have n3_:=Ak (hbox);have n4_:=Ak ((by rw [hg];exact (below_size HB.out) : w.heap.size ≤ gb104));have n5_:=Ak ((by rw [hg];exact (below_size HB.out) : w.heap.size ≤ gb104));have n6_:=Ak ((by rw [hg];exact Nat.ne_of_lt (blk_lt (g:=gb102) (o:=.cells #[.int .i64 a0_0,.int .i64 a0_1,.int .i64 a0_2,.int .i64 a0_3] 35 (0,0)) BK102.out) : gb102 ≠ gb104));have n7_:=Ak ((by rw [hg];exact Nat.ne_of_gt (blk_lt (g:=gb102) (o:=.cells #[.int .i64 a0_0,.int .i64 a0_1,.int .i64 a0_2,.int .i64 a0_3] 35 (0,0)) BK102.out) : gb104 ≠ gb102));have n8_:=Ak ((by rw [hg];exact Nat.ne_of_lt (blk_lt (g:=gb103) (o:=.cells #[.int .i64 a1_0,.int .i64 a1_1,.int .i64 a1_2,.int .i64 a1_3] 35 (0,0)) BK103.out) : gb103 ≠ gb104));have n9_:=Ak ((by rw [hg];exact Nat.ne_of_gt (blk_lt (g:=gb103) (o:=.cells #[.int .i64 a1_0,.int .i64 a1_1,.int .i64 a1_2,.int .i64 a1_3] 35 (0,0)) BK103.out) : gb104 ≠ gb103));clear BK102;clear BK103;clear HB;have BK102:=n0_;have BK103:=n1_;have HB:=n2_;have BK104:=n3_;have GW104:=n4_;have GE104:=n5_;have NB102_104:=n6_;have NB104_102:=n7_;have NB103_104:=n8_;have NB104_103:=n9_;clear n0_ n1_ n2_ n3_ n4_ n5_ n6_ n7_ n8_ n9_;clear hb hbox hg;have hnb38:=NB102_103.out;have hnc38:=NB103_102.out;have hnb39:=NB102_104.out;have hnc39:=NB104_102.out;have hcz40_0 : w37.cell? ⟨gb102,0,none⟩ = some (.int .i64 a0_0):=(kC BK102.out 0).trans rfl;have hcz40_1 : w37.cell? ⟨gb102,1,none⟩ = some (.int .i64 a0_1):=(kC BK102.out 1).trans rfl;have hcz40_2 : w37.cell? ⟨gb102,2,none⟩ = some (.int .i64 a0_2):=(kC BK102.out 2).trans rfl;have hcz40_3 : w37.cell? ⟨gb102,3,none⟩ = some (.int .i64 a0_3):=(kC BK102.out 3).trans rfl;have hfz40_0:=blk_frozen BK102.out 0;have hfz40_1:=blk_frozen BK102.out 1;have hfz40_2:=blk_frozen BK102.out 2;have hfz40_3:=blk_frozen BK102.out 3)|((with_reducible refine gate_callee (f:=57) rfl ?_);refine goesL_ (some 6) rfl rfl Try.func57 (by kernel_rfl) rfl #[.agg #[.int .i64 a0_0,.int .i64 a0_1,.int .i64 a0_2,.int .i64 a0_3]] rfl (by (try simp only [List.map_toArray,List.map_cons,List.map_nil]);first|done|rfl|(simp only [List.length_drop,List.length_take];rfl)) ?_;(with_reducible refine (key_box.calls a0_0 a0_1 a0_2 a0_3 false _ A3.out).mono ?_);rintro e w41 ⟨rfl,hb⟩;refine ⟨_,rfl,?_⟩;have n0_:=Kb BK102 hb;have n1_:=Kb BK103 hb;have n2_:=Kb BK104 hb;have n3_:=Kh HB hb;clear BK102;clear BK103;clear BK104;clear HB;have BK102:=n0_;have BK103:=n1_;have BK104:=n2_;have HB:=n3_;clear n0_ n1_ n2_ n3_;(try clear hb);(try clear hb2);(try clear hk);(try clear hi);have hnb42:=NB104_103.out;have hnc42:=NB103_104.out;have hcz43_0 : w41.cell? ⟨gb104,0,none⟩ = some (.int .i64 0):=(kC BK104.out 0).trans rfl;have hcz43_1 : w41.cell? ⟨gb104,1,none⟩ = some (.int .i64 0):=(kC BK104.out 1).trans rfl;have hcz43_2 : w41.cell? ⟨gb104,2,none⟩ = some (.int .i64 0):=(kC BK104.out 2).trans rfl;have hcz43_3 : w41.cell? ⟨gb104,3,none⟩ = some (.int .i64 0):=(kC BK104.out 3).trans rfl;have hfz43_0:=blk_frozen BK104.out 0;have hfz43_1:=blk_frozen BK104.out 1;have hfz43_2:=blk_frozen BK104.out 2;have hfz43_3:=blk_frozen BK104.out 3))
  refine bodyPost_ret (results_cell_row rfl _ _ gb104 35 #[.int .i64 0,.int .i64 0,.int .i64 0,.int .i64 0] (0,0) _ rfl (by (with_reducible repeat (first|refine kN ?_ _|refine kD ?_|refine kA ?_ _));refine blk_put (cs:=#[.int .i64 0,.int .i64 0,.int .i64 0,.int .i64 0]) ?_ 3 _ rfl;(with_reducible repeat (first|refine kN ?_ _|refine kD ?_|refine kA ?_ _));refine blk_put (cs:=#[.int .i64 0,.int .i64 0,.int .i64 0,.int .i64 0]) ?_ 2 _ rfl;(with_reducible repeat (first|refine kN ?_ _|refine kD ?_|refine kA ?_ _));refine blk_put (cs:=#[.int .i64 0,.int .i64 0,.int .i64 0,.int .i64 0]) ?_ 1 _ rfl;(with_reducible repeat (first|refine kN ?_ _|refine kD ?_|refine kA ?_ _));refine blk_put (cs:=#[.int .i64 0,.int .i64 0,.int .i64 0,.int .i64 0]) ?_ 0 _ rfl;(with_reducible repeat (first|refine kN ?_ _|refine kD ?_|refine kA ?_ _));exact BK104.out) Try.underlying35 rfl (by kernel_rfl)) rfl ?_
  exact ⟨by first|rfl|(simp [errW_none,errW_some] <;> rfl)|(simp [*,errW_none,errW_some] <;> rfl),by repeat (first|(with_reducible first|exact HB.out|apply bA|apply bN|apply bD|refine bS ?_ GE102.out|refine bS ?_ GE103.out|refine bS ?_ GE104.out)|exact HB.out)⟩
def key_Bound.l0 : Nat → List (S35) → Int → Int → Int → Int → Int → Int → Option (Int × Int × Int × Int × Int)
  | 0, _, _, _, _, _, _, _ => none
  | k + 1, x14, x15, x16, x110000, x110001, x110002, x110003 => if x16 < x15 then (if 0 ≤ x16 then (if x16 < (x14.length : Int) then ((key_box.f ((rd_T35 x14 x16).f0) ((rd_T35 x14 x16).f1) ((rd_T35 x14 x16).f2) ((rd_T35 x14 x16).f3)).bind fun t112 => (if t112 = true then ((key_Union.f x110000 x110001 x110002 x110003 ((rd_T35 x14 x16).f0) ((rd_T35 x14 x16).f1) ((rd_T35 x14 x16).f2) ((rd_T35 x14 x16).f3)).bind fun bt113 => (key_Bound.l0 k x14 x15 (wrap64 (x16 + 1)) bt113.1 bt113.2.1 bt113.2.2.1 bt113.2.2.2)) else (some (0, 0, 0, 0, 2)))) else (none)) else (none)) else (some (x110000, x110001, x110002, x110003, 0))
def key_Bound.f (k : Nat) (l0 : List (S35)) : Option (Int × Int × Int × Int × Int) := if (l0.length : Int) = 0 then (some (0, 0, 0, 0, 2)) else (if 0 < (l0.length : Int) then (key_Bound.l0 k l0 (l0.length : Int) 0 ((rd_T35 l0 0).f0) ((rd_T35 l0 0).f1) ((rd_T35 l0 0).f2) ((rd_T35 l0 0).f3)) else (none))
set_option maxHeartbeats 8000000 in
set_option maxRecDepth 100000 in
theorem key_Bound.calls (k : Nat) (A0 : Option Addr) (c0 : Nat) (l0 : List (S35)) (r1 : Int) (r2 : Int) (r3 : Int) (r4 : Int) (r5 : Int) (w : World) (hr0 : Kd.C k35 w A0 l0.length l0) (hc0 : l0.length ≤ c0) (h : key_Bound.f k l0 = some (r1,r2,r3,r4,r5)) :
  Calls Try.prog 52 #[.slice A0 l0.length c0] w fun e w' => e = .returned (.tuple #[.agg #[.int .i64 r1,.int .i64 r2,.int .i64 r3,.int .i64 r4],.int .i64 r5])∧Below w.heap.size w w':=by
 have hu35:=Try.underlying35
 have HR0:=Ak hr0
 have HC0:=Ak hc0
 clear hr0 hc0
 have HB:=Ak (Below.refl w.heap.size w)
 have H : (if (l0.length : Int) = 0 then (some (0,0,0,0,2)) else (if 0 < (l0.length : Int) then (key_Bound.l0 k l0 (l0.length : Int) 0 ((rd_T35 l0 0).f0) ((rd_T35 l0 0).f1) ((rd_T35 l0 0).f2) ((rd_T35 l0 0).f3)) else (none))) = some (r1,r2,r3,r4,r5):=h
 clear h
 by_cases c2 : (l0.length : Int) = 0
 ·rw [if_pos c2] at H
  have c2b0 : ((l0.length : Int) == 0) = true:=beq_iff_eq.mpr c2
  have c2b1 : ((l0.length : Int) != 0) = false:=bne_eq_false_iff_eq.mpr c2
  clear c2
  simp only [Option.some.injEq,Prod.mk.injEq] at H
  obtain ⟨rfl,rfl,rfl,rfl,rfl⟩:=H
  go_enter Try.func52,Try.ntmps52
  go_wp2_with (first|((with_reducible refine gate_dst (N:=2) rfl ?_);refine box_event ?hg (N:=2) ?hd (cs:=#[.int .i64 0,.int .i64 0,.int .i64 0,.int .i64 0]) (t:=35) ?hr ?_;(case hd => rfl);(case hg => rfl);(case hr => first|(go_simp;done)|(go_simp;rfl));intro gb107 hg w3 hbox hb;have n0_:=Kh HB hb;have n1_:=Ak (hbox);have n2_:=Ak ((by rw [hg];exact (below_size HB.out) : w.heap.size ≤ gb107));have n3_:=Ak ((by rw [hg];exact (below_size HB.out) : w.heap.size ≤ gb107));clear HB;have HB:=n0_;have BK107:=n1_;have GW107:=n2_;have GE107:=n3_;clear n0_ n1_ n2_ n3_;clear hb hbox hg;have hcz4_0 : w3.cell? ⟨gb107,0,none⟩ = some (.int .i64 0):=(kC BK107.out 0).trans rfl;have hcz4_1 : w3.cell? ⟨gb107,1,none⟩ = some (.int .i64 0):=(kC BK107.out 1).trans rfl;have hcz4_2 : w3.cell? ⟨gb107,2,none⟩ = some (.int .i64 0):=(kC BK107.out 2).trans rfl;have hcz4_3 : w3.cell? ⟨gb107,3,none⟩ = some (.int .i64 0):=(kC BK107.out 3).trans rfl;have hfz4_0:=blk_frozen BK107.out 0;have hfz4_1:=blk_frozen BK107.out 1;have hfz4_2:=blk_frozen BK107.out 2;have hfz4_3:=blk_frozen BK107.out 3))
  refine bodyPost_ret (results_ct rfl _ _ gb107 35 #[.int .i64 0,.int .i64 0,.int .i64 0,.int .i64 0] (0,0) _ rfl (by (with_reducible repeat (first|refine kN ?_ _|refine kD ?_|refine kA ?_ _));refine blk_put (cs:=#[.int .i64 0,.int .i64 0,.int .i64 0,.int .i64 0]) ?_ 3 _ rfl;(with_reducible repeat (first|refine kN ?_ _|refine kD ?_|refine kA ?_ _));refine blk_put (cs:=#[.int .i64 0,.int .i64 0,.int .i64 0,.int .i64 0]) ?_ 2 _ rfl;(with_reducible repeat (first|refine kN ?_ _|refine kD ?_|refine kA ?_ _));refine blk_put (cs:=#[.int .i64 0,.int .i64 0,.int .i64 0,.int .i64 0]) ?_ 1 _ rfl;(with_reducible repeat (first|refine kN ?_ _|refine kD ?_|refine kA ?_ _));refine blk_put (cs:=#[.int .i64 0,.int .i64 0,.int .i64 0,.int .i64 0]) ?_ 0 _ rfl;(with_reducible repeat (first|refine kN ?_ _|refine kD ?_|refine kA ?_ _));exact BK107.out) Try.underlying35 rfl (by kernel_rfl)) rfl ?_
  exact ⟨by first|rfl|(simp [errW_none,errW_some] <;> rfl)|(simp [*,errW_none,errW_some] <;> rfl),by repeat (first|(with_reducible first|exact HB.out|apply bA|apply bN|apply bD|refine bS ?_ GE107.out)|exact HB.out)⟩
 ·rw [if_neg c2] at H
  have c2b0 : ((l0.length : Int) == 0) = false:=beq_eq_false_iff_ne.mpr c2
  have c2b1 : ((l0.length : Int) != 0) = true:=bne_iff_ne.mpr c2
  have c2b2 : ¬ (l0 = []):=fun h_ => c2 (by rw [h_];rfl)
  by_cases c5 : 0 < (l0.length : Int)
  ·rw [if_pos c5] at H
   have c5b0 : decide (0 < (l0.length : Int)) = true:=decide_eq_true c5
   have c5b1 : decide (0 < l0.length) = true:=decide_eq_true (by omega)
   clear c5
   have H':=Ak H
   clear H
   go_enter Try.func52,Try.ntmps52
   go_wp2_with (first|((with_reducible refine gate_dst (N:=2) rfl ?_);refine box_event ?hg (N:=2) ?hd (cs:=#[.int .i64 0,.int .i64 0,.int .i64 0,.int .i64 0]) (t:=35) ?hr ?_;(case hd => rfl);(case hg => rfl);(case hr => first|(go_simp;done)|(go_simp;rfl));intro gb107 hg w6 hbox hb;have n0_:=Kh HB hb;have n1_:=Ak (hbox);have n2_:=Ak ((by rw [hg];exact (below_size HB.out) : w.heap.size ≤ gb107));have n3_:=Ak ((by rw [hg];exact (below_size HB.out) : w.heap.size ≤ gb107));clear HB;have HB:=n0_;have BK107:=n1_;have GW107:=n2_;have GE107:=n3_;clear n0_ n1_ n2_ n3_;clear hb hbox hg;have p108 : 0 ≤ (0 : Int):=(by omega);have q108 : 0 < (l0.length : Int):=of_decide_eq_true (by first|(with_reducible assumption)|assumption);obtain ⟨ad108,e108,hx108_0,hx108_1,hx108_2,hx108_3⟩:=at_T35 HR0.out 0 p108 q108;cases e108;have qi108 : (0 < l0.length) = True:=eq_true (by omega);(try rw [show ((0 : Int)).toNat = 0 from rfl] at hx108_0);(try rw [show 0*4 = 0 from rfl] at hx108_0);(try rw [Addr.add_zero'] at hx108_0);(try rw [show ((0 : Int)).toNat = 0 from rfl] at hx108_1);(try rw [show 0*4 = 0 from rfl] at hx108_1);(try rw [Addr.add_zero'] at hx108_1);(try rw [show ((0 : Int)).toNat = 0 from rfl] at hx108_2);(try rw [show 0*4 = 0 from rfl] at hx108_2);(try rw [Addr.add_zero'] at hx108_2);(try rw [show ((0 : Int)).toNat = 0 from rfl] at hx108_3);(try rw [show 0*4 = 0 from rfl] at hx108_3);(try rw [Addr.add_zero'] at hx108_3);replace hx108_0:=(HB.out.cell (World.block_lt_of_cell? w _ hx108_0)).trans hx108_0;replace hx108_1:=(HB.out.cell (World.block_lt_of_cell? w _ hx108_1)).trans hx108_1;replace hx108_2:=(HB.out.cell (World.block_lt_of_cell? w _ hx108_2)).trans hx108_2;replace hx108_3:=(HB.out.cell (World.block_lt_of_cell? w _ hx108_3)).trans hx108_3;replace p108:=eq_true p108;replace q108:=eq_true q108)|((with_reducible refine gate_dst (N:=4) rfl ?_);refine box_event ?hg (N:=4) ?hd (cs:=#[.int .i64 0,.int .i64 0,.int .i64 0,.int .i64 0]) (t:=35) ?hr ?_;(case hd => rfl);(case hg => rfl);(case hr => first|(go_simp;done)|(go_simp;rfl));intro gb109 hg w7 hbox hb;have n0_:=Kb BK107 hb;have n1_:=Kh HB hb;have n2_:=Ak (hbox);have n3_:=Ak ((by rw [hg];exact (below_size HB.out) : w.heap.size ≤ gb109));have n4_:=Ak ((by rw [hg];exact (below_size HB.out) : w.heap.size ≤ gb109));have n5_:=Ak ((by rw [hg];exact Nat.ne_of_lt (blk_lt (g:=gb107) (o:=.cells #[.int .i64 0,.int .i64 0,.int .i64 0,.int .i64 0] 35 (0,0)) BK107.out) : gb107 ≠ gb109));have n6_:=Ak ((by rw [hg];exact Nat.ne_of_gt (blk_lt (g:=gb107) (o:=.cells #[.int .i64 0,.int .i64 0,.int .i64 0,.int .i64 0] 35 (0,0)) BK107.out) : gb109 ≠ gb107));clear BK107;clear HB;have BK107:=n0_;have HB:=n1_;have BK109:=n2_;have GW109:=n3_;have GE109:=n4_;have NB107_109:=n5_;have NB109_107:=n6_;clear n0_ n1_ n2_ n3_ n4_ n5_ n6_;clear hb hbox hg;have hnb8:=NB109_107.out;have hnc8:=NB107_109.out;have hcz9_0 : w7.cell? ⟨gb109,0,none⟩ = some (.int .i64 0):=(kC BK109.out 0).trans rfl;have hcz9_1 : w7.cell? ⟨gb109,1,none⟩ = some (.int .i64 0):=(kC BK109.out 1).trans rfl;have hcz9_2 : w7.cell? ⟨gb109,2,none⟩ = some (.int .i64 0):=(kC BK109.out 2).trans rfl;have hcz9_3 : w7.cell? ⟨gb109,3,none⟩ = some (.int .i64 0):=(kC BK109.out 3).trans rfl;have hfz9_0:=blk_frozen BK109.out 0;have hfz9_1:=blk_frozen BK109.out 1;have hfz9_2:=blk_frozen BK109.out 2;have hfz9_3:=blk_frozen BK109.out 3))
   go_loopg [16] k (fun kq v16 w' => ∃ (x16_1 : Int) (x108000_1 : Int) (x108001_1 : Int) (x108002_1 : Int) (x108003_1 : Int) (x110000_1 : Int) (x110001_1 : Int) (x110002_1 : Int) (x110003_1 : Int),v16 = .int .i64 x16_1∧Aside0 (key_Bound.l0 kq l0 (l0.length : Int) x16_1 x110000_1 x110001_1 x110002_1 x110003_1 = some (r1,r2,r3,r4,r5))∧Aside0 (kq ≤ k)∧Aside0 (w'.heap[gb107]? = some (.cells #[.int .i64 x108000_1,.int .i64 x108001_1,.int .i64 x108002_1,.int .i64 x108003_1] 35 (0,0)))∧Aside0 (w'.heap[gb109]? = some (.cells #[.int .i64 x110000_1,.int .i64 x110001_1,.int .i64 x110002_1,.int .i64 x110003_1] 35 (0,0)))∧Aside0 (Below w.heap.size w w'))
   case atStart => exact ⟨(0),(0),(0),(0),(0),((rd_T35 l0 0).f0),((rd_T35 l0 0).f1),((rd_T35 l0 0).f2),((rd_T35 l0 0).f3),(by first|rfl|(simp;done)|(simp [*];done)),H',⟨Nat.le_refl _⟩,⟨by (with_reducible repeat (first|refine kN ?_ _|refine kD ?_|refine kA ?_ _));refine blk_far ?_ NB107_109.out _;(with_reducible repeat (first|refine kN ?_ _|refine kD ?_|refine kA ?_ _));refine blk_far ?_ NB107_109.out _;(with_reducible repeat (first|refine kN ?_ _|refine kD ?_|refine kA ?_ _));refine blk_far ?_ NB107_109.out _;(with_reducible repeat (first|refine kN ?_ _|refine kD ?_|refine kA ?_ _));refine blk_far ?_ NB107_109.out _;(with_reducible repeat (first|refine kN ?_ _|refine kD ?_|refine kA ?_ _));exact BK107.out⟩,⟨by (with_reducible repeat (first|refine kN ?_ _|refine kD ?_|refine kA ?_ _));refine blk_put (cs:=#[.int .i64 ((rd_T35 l0 0).f0),.int .i64 ((rd_T35 l0 0).f1),.int .i64 ((rd_T35 l0 0).f2),.int .i64 0]) ?_ 3 _ rfl;(with_reducible repeat (first|refine kN ?_ _|refine kD ?_|refine kA ?_ _));refine blk_put (cs:=#[.int .i64 ((rd_T35 l0 0).f0),.int .i64 ((rd_T35 l0 0).f1),.int .i64 0,.int .i64 0]) ?_ 2 _ rfl;(with_reducible repeat (first|refine kN ?_ _|refine kD ?_|refine kA ?_ _));refine blk_put (cs:=#[.int .i64 ((rd_T35 l0 0).f0),.int .i64 0,.int .i64 0,.int .i64 0]) ?_ 1 _ rfl;(with_reducible repeat (first|refine kN ?_ _|refine kD ?_|refine kA ?_ _));refine blk_put (cs:=#[.int .i64 0,.int .i64 0,.int .i64 0,.int .i64 0]) ?_ 0 _ rfl;(with_reducible repeat (first|refine kN ?_ _|refine kD ?_|refine kA ?_ _));exact BK109.out⟩,⟨by repeat (first|(with_reducible first|exact HB.out|apply bA|apply bN|apply bD|refine bS ?_ GE107.out|refine bS ?_ GE109.out)|exact HB.out)⟩⟩
   case round =>
    clear H'
    try clear p1
    try clear q1
    try clear hx1
    try clear qi1
    try clear c2
    try clear c2b0
    try clear c2b1
    try clear c2b2
    try clear p2
    try clear c5
    try clear c5b0
    try clear c5b1
    try clear c8
    try clear hcz4_0
    try clear hcz4_1
    try clear hcz4_2
    try clear hcz4_3
    try clear hcz9_0
    try clear hcz9_1
    try clear hcz9_2
    try clear hcz9_3
    try clear hfz4_0
    try clear hfz4_1
    try clear hfz4_2
    try clear hfz4_3
    try clear hfz9_0
    try clear hfz9_1
    try clear hfz9_2
    try clear hfz9_3
    try clear hx108_0
    try clear hx108_1
    try clear hx108_2
    try clear hx108_3
    try clear p108
    try clear q108
    obtain ⟨x16_1,x108000_1,x108001_1,x108002_1,x108003_1,x110000_1,x110001_1,x110002_1,x110003_1,rfl,HA,HK1,BK107,BK109,HB⟩:=hrel
    cases gk with
    | zero => exact absurd HA.out (by simp [key_Bound.l0])
    | succ k1 =>
     have H:=HA.out
     clear HA
     simp only [key_Bound.l0] at H
     by_cases c10 : x16_1 < (l0.length : Int)
     ·rw [if_pos c10] at H
      have c10b0 : decide (x16_1 < (l0.length : Int)) = true:=decide_eq_true c10
      clear c10
      by_cases c11 : 0 ≤ x16_1
      ·rw [if_pos c11] at H
       have c11b0 : decide (0 ≤ x16_1) = true:=decide_eq_true c11
       clear c11
       by_cases c12 : x16_1 < (l0.length : Int)
       ·rw [if_pos c12] at H
        have c12b0 : decide (x16_1 < (l0.length : Int)) = true:=decide_eq_true c12
        clear c12
        replace H:=Option.bind_eq_some_iff.mp H
        obtain ⟨t112,A130,H⟩:=H
        replace H : (if t112 = true then ((key_Union.f x110000_1 x110001_1 x110002_1 x110003_1 ((rd_T35 l0 x16_1).f0) ((rd_T35 l0 x16_1).f1) ((rd_T35 l0 x16_1).f2) ((rd_T35 l0 x16_1).f3)).bind fun bt113 => (key_Bound.l0 k1 l0 (l0.length : Int) (wrap64 (x16_1+1)) bt113.1 bt113.2.1 bt113.2.2.1 bt113.2.2.2)) else (some (0,0,0,0,2))) = some (r1,r2,r3,r4,r5):=H
        have A13:=Ak A130
        clear A130
        by_cases c14 : t112 = true
        ·subst c14
         have H1 : ((key_Union.f x110000_1 x110001_1 x110002_1 x110003_1 ((rd_T35 l0 x16_1).f0) ((rd_T35 l0 x16_1).f1) ((rd_T35 l0 x16_1).f2) ((rd_T35 l0 x16_1).f3)).bind fun bt113 => (key_Bound.l0 k1 l0 (l0.length : Int) (wrap64 (x16_1+1)) bt113.1 bt113.2.1 bt113.2.2.1 bt113.2.2.2)) = some (r1,r2,r3,r4,r5):=by rw [if_pos rfl] at H;exact H
         clear H
         have H:=H1
         clear H1
         replace H:=Option.bind_eq_some_iff.mp H
         obtain ⟨⟨t113,t114,t115,t116⟩,A150,H⟩:=H
         replace H : (key_Bound.l0 k1 l0 (l0.length : Int) (wrap64 (x16_1+1)) t113 t114 t115 t116) = some (r1,r2,r3,r4,r5):=H
         have A15:=Ak A150
         clear A150
         have H':=Ak H
         clear H
         have p110 : 0 ≤ (x16_1 : Int):=of_decide_eq_true (by first|(with_reducible assumption)|assumption)
         have q110 : x16_1 < (l0.length : Int):=of_decide_eq_true (by first|(with_reducible assumption)|assumption)
         obtain ⟨ad110,e110,hx110_0,hx110_1,hx110_2,hx110_3⟩:=at_T35 HR0.out x16_1 p110 q110
         obtain rfl : ad108 = ad110:=(by injection e110)
         replace hx110_0:=(HB.out.cell (World.block_lt_of_cell? w _ hx110_0)).trans hx110_0
         replace hx110_1:=(HB.out.cell (World.block_lt_of_cell? w _ hx110_1)).trans hx110_1
         replace hx110_2:=(HB.out.cell (World.block_lt_of_cell? w _ hx110_2)).trans hx110_2
         replace hx110_3:=(HB.out.cell (World.block_lt_of_cell? w _ hx110_3)).trans hx110_3
         replace p110:=eq_true p110
         replace q110:=eq_true q110
         go_wp2_with (first|((with_reducible refine gate_dst (N:=6) rfl ?_);refine box_event ?hg (N:=6) ?hd (cs:=#[.int .i64 0,.int .i64 0,.int .i64 0,.int .i64 0]) (t:=35) ?hr ?_;(case hd => rfl);(case hg => rfl);(case hr => first|(go_simp;done)|(go_simp;rfl));intro gb111 hg w16 hbox hb;have n0_:=Ak (kB (g:=gb107) (o:=.cells #[.int .i64 x108000_1,.int .i64 x108001_1,.int .i64 x108002_1,.int .i64 x108003_1] 35 (0,0)) (by (with_reducible repeat (first|refine kN ?_ _|refine kD ?_|refine kA ?_ _));exact BK107.out) hb);have n1_:=Ak (kB (g:=gb109) (o:=.cells #[.int .i64 x110000_1,.int .i64 x110001_1,.int .i64 x110002_1,.int .i64 x110003_1] 35 (0,0)) (by (with_reducible repeat (first|refine kN ?_ _|refine kD ?_|refine kA ?_ _));exact BK109.out) hb);have n2_:=Ak (below_step (by repeat (first|(with_reducible first|exact HB.out|apply bA|apply bN|apply bD|refine bS ?_ GE107.out|refine bS ?_ GE109.out)|exact HB.out)) hb);have n3_:=Ak (hbox);have n4_:=Ak ((by rw [hg];exact (below_size (by repeat (first|(with_reducible first|exact HB.out|apply bA|apply bN|apply bD|refine bS ?_ GE107.out|refine bS ?_ GE109.out)|exact HB.out))) : w.heap.size ≤ gb111));have n5_:=Ak ((by rw [hg];exact (below_size (by repeat (first|(with_reducible first|exact HB.out|apply bA|apply bN|apply bD|refine bS ?_ GE107.out|refine bS ?_ GE109.out)|exact HB.out))) : w.heap.size ≤ gb111));have n6_:=Ak ((by rw [hg];exact Nat.ne_of_lt (blk_lt (g:=gb107) (o:=.cells #[.int .i64 x108000_1,.int .i64 x108001_1,.int .i64 x108002_1,.int .i64 x108003_1] 35 (0,0)) (by (with_reducible repeat (first|refine kN ?_ _|refine kD ?_|refine kA ?_ _));exact BK107.out)) : gb107 ≠ gb111));have n7_:=Ak ((by rw [hg];exact Nat.ne_of_gt (blk_lt (g:=gb107) (o:=.cells #[.int .i64 x108000_1,.int .i64 x108001_1,.int .i64 x108002_1,.int .i64 x108003_1] 35 (0,0)) (by (with_reducible repeat (first|refine kN ?_ _|refine kD ?_|refine kA ?_ _));exact BK107.out)) : gb111 ≠ gb107));have n8_:=Ak ((by rw [hg];exact Nat.ne_of_lt (blk_lt (g:=gb109) (o:=.cells #[.int .i64 x110000_1,.int .i64 x110001_1,.int .i64 x110002_1,.int .i64 x110003_1] 35 (0,0)) (by (with_reducible repeat (first|refine kN ?_ _|refine kD ?_|refine kA ?_ _));exact BK109.out)) : gb109 ≠ gb111));have n9_:=Ak ((by rw [hg];exact Nat.ne_of_gt (blk_lt (g:=gb109) (o:=.cells #[.int .i64 x110000_1,.int .i64 x110001_1,.int .i64 x110002_1,.int .i64 x110003_1] 35 (0,0)) (by (with_reducible repeat (first|refine kN ?_ _|refine kD ?_|refine kA ?_ _));exact BK109.out)) : gb111 ≠ gb109));clear BK107;clear BK109;clear HB;have BK107:=n0_;have BK109:=n1_;have HB:=n2_;have BK111:=n3_;have GW111:=n4_;have GE111:=n5_;have NB107_111:=n6_;have NB111_107:=n7_;have NB109_111:=n8_;have NB111_109:=n9_;clear n0_ n1_ n2_ n3_ n4_ n5_ n6_ n7_ n8_ n9_;clear hb hbox hg;have hnb17:=NB111_107.out;have hnc17:=NB107_111.out;have hnb18:=NB111_109.out;have hnc18:=NB109_111.out;have hcz19_0 : w16.cell? ⟨gb111,0,none⟩ = some (.int .i64 0):=(kC BK111.out 0).trans rfl;have hcz19_1 : w16.cell? ⟨gb111,1,none⟩ = some (.int .i64 0):=(kC BK111.out 1).trans rfl;have hcz19_2 : w16.cell? ⟨gb111,2,none⟩ = some (.int .i64 0):=(kC BK111.out 2).trans rfl;have hcz19_3 : w16.cell? ⟨gb111,3,none⟩ = some (.int .i64 0):=(kC BK111.out 3).trans rfl;have hfz19_0:=blk_frozen BK111.out 0;have hfz19_1:=blk_frozen BK111.out 1;have hfz19_2:=blk_frozen BK111.out 2;have hfz19_3:=blk_frozen BK111.out 3)|((with_reducible refine gate_callee (f:=57) rfl ?_);refine goesL_ (some 21) rfl rfl Try.func57 (by kernel_rfl) rfl #[.agg #[.int .i64 ((rd_T35 l0 x16_1).f0),.int .i64 ((rd_T35 l0 x16_1).f1),.int .i64 ((rd_T35 l0 x16_1).f2),.int .i64 ((rd_T35 l0 x16_1).f3)]] rfl (by (try simp only [List.map_toArray,List.map_cons,List.map_nil]);first|done|rfl|(simp only [List.length_drop,List.length_take];rfl)) ?_;(with_reducible refine (key_box.calls ((rd_T35 l0 x16_1).f0) ((rd_T35 l0 x16_1).f1) ((rd_T35 l0 x16_1).f2) ((rd_T35 l0 x16_1).f3) true _ A13.out).mono ?_);rintro e w20 ⟨rfl,hb⟩;refine ⟨_,rfl,?_⟩;have n0_:=Ak (kB (g:=gb107) (o:=.cells #[.int .i64 x108000_1,.int .i64 x108001_1,.int .i64 x108002_1,.int .i64 x108003_1] 35 (0,0)) (by (with_reducible repeat (first|refine kN ?_ _|refine kD ?_|refine kA ?_ _));refine blk_far ?_ NB107_111.out _;(with_reducible repeat (first|refine kN ?_ _|refine kD ?_|refine kA ?_ _));refine blk_far ?_ NB107_111.out _;(with_reducible repeat (first|refine kN ?_ _|refine kD ?_|refine kA ?_ _));refine blk_far ?_ NB107_111.out _;(with_reducible repeat (first|refine kN ?_ _|refine kD ?_|refine kA ?_ _));refine blk_far ?_ NB107_111.out _;(with_reducible repeat (first|refine kN ?_ _|refine kD ?_|refine kA ?_ _));exact BK107.out) hb);have n1_:=Ak (kB (g:=gb109) (o:=.cells #[.int .i64 x110000_1,.int .i64 x110001_1,.int .i64 x110002_1,.int .i64 x110003_1] 35 (0,0)) (by (with_reducible repeat (first|refine kN ?_ _|refine kD ?_|refine kA ?_ _));refine blk_far ?_ NB109_111.out _;(with_reducible repeat (first|refine kN ?_ _|refine kD ?_|refine kA ?_ _));refine blk_far ?_ NB109_111.out _;(with_reducible repeat (first|refine kN ?_ _|refine kD ?_|refine kA ?_ _));refine blk_far ?_ NB109_111.out _;(with_reducible repeat (first|refine kN ?_ _|refine kD ?_|refine kA ?_ _));refine blk_far ?_ NB109_111.out _;(with_reducible repeat (first|refine kN ?_ _|refine kD ?_|refine kA ?_ _));exact BK109.out) hb);have n2_:=Ak (kB (g:=gb111) (o:=.cells #[.int .i64 ((rd_T35 l0 x16_1).f0),.int .i64 ((rd_T35 l0 x16_1).f1),.int .i64 ((rd_T35 l0 x16_1).f2),.int .i64 ((rd_T35 l0 x16_1).f3)] 35 (0,0)) (by (with_reducible repeat (first|refine kN ?_ _|refine kD ?_|refine kA ?_ _));refine blk_put (cs:=#[.int .i64 ((rd_T35 l0 x16_1).f0),.int .i64 ((rd_T35 l0 x16_1).f1),.int .i64 ((rd_T35 l0 x16_1).f2),.int .i64 0]) ?_ 3 _ rfl;(with_reducible repeat (first|refine kN ?_ _|refine kD ?_|refine kA ?_ _));refine blk_put (cs:=#[.int .i64 ((rd_T35 l0 x16_1).f0),.int .i64 ((rd_T35 l0 x16_1).f1),.int .i64 0,.int .i64 0]) ?_ 2 _ rfl;(with_reducible repeat (first|refine kN ?_ _|refine kD ?_|refine kA ?_ _));refine blk_put (cs:=#[.int .i64 ((rd_T35 l0 x16_1).f0),.int .i64 0,.int .i64 0,.int .i64 0]) ?_ 1 _ rfl;(with_reducible repeat (first|refine kN ?_ _|refine kD ?_|refine kA ?_ _));refine blk_put (cs:=#[.int .i64 0,.int .i64 0,.int .i64 0,.int .i64 0]) ?_ 0 _ rfl;(with_reducible repeat (first|refine kN ?_ _|refine kD ?_|refine kA ?_ _));exact BK111.out) hb);have n3_:=Ak (below_step (by repeat (first|(with_reducible first|exact HB.out|apply bA|apply bN|apply bD|refine bS ?_ GE107.out|refine bS ?_ GE109.out|refine bS ?_ GE111.out)|exact HB.out)) hb);clear BK107;clear BK109;clear BK111;clear HB;have BK107:=n0_;have BK109:=n1_;have BK111:=n2_;have HB:=n3_;clear n0_ n1_ n2_ n3_;(try clear hb);(try clear hb2);(try clear hk);(try clear hi);have hnb21:=NB109_107.out;have hnc21:=NB107_109.out;have hcz22_0 : w20.cell? ⟨gb109,0,none⟩ = some (.int .i64 x110000_1):=(kC BK109.out 0).trans rfl;have hcz22_1 : w20.cell? ⟨gb109,1,none⟩ = some (.int .i64 x110001_1):=(kC BK109.out 1).trans rfl;have hcz22_2 : w20.cell? ⟨gb109,2,none⟩ = some (.int .i64 x110002_1):=(kC BK109.out 2).trans rfl;have hcz22_3 : w20.cell? ⟨gb109,3,none⟩ = some (.int .i64 x110003_1):=(kC BK109.out 3).trans rfl;have hfz22_0:=blk_frozen BK109.out 0;have hfz22_1:=blk_frozen BK109.out 1;have hfz22_2:=blk_frozen BK109.out 2;have hfz22_3:=blk_frozen BK109.out 3;have hcz23_0 : w20.cell? ⟨gb111,0,none⟩ = some (.int .i64 ((rd_T35 l0 x16_1).f0)):=(kC BK111.out 0).trans rfl;have hcz23_1 : w20.cell? ⟨gb111,1,none⟩ = some (.int .i64 ((rd_T35 l0 x16_1).f1)):=(kC BK111.out 1).trans rfl;have hcz23_2 : w20.cell? ⟨gb111,2,none⟩ = some (.int .i64 ((rd_T35 l0 x16_1).f2)):=(kC BK111.out 2).trans rfl;have hcz23_3 : w20.cell? ⟨gb111,3,none⟩ = some (.int .i64 ((rd_T35 l0 x16_1).f3)):=(kC BK111.out 3).trans rfl;have hfz23_0:=blk_frozen BK111.out 0;have hfz23_1:=blk_frozen BK111.out 1;have hfz23_2:=blk_frozen BK111.out 2;have hfz23_3:=blk_frozen BK111.out 3)|((with_reducible refine gate_callee (f:=40) rfl ?_);refine goesL_ (some 26) rfl rfl Try.func40 (by kernel_rfl) rfl #[.agg #[.int .i64 x110000_1,.int .i64 x110001_1,.int .i64 x110002_1,.int .i64 x110003_1],.agg #[.int .i64 ((rd_T35 l0 x16_1).f0),.int .i64 ((rd_T35 l0 x16_1).f1),.int .i64 ((rd_T35 l0 x16_1).f2),.int .i64 ((rd_T35 l0 x16_1).f3)]] rfl (by (try simp only [List.map_toArray,List.map_cons,List.map_nil]);first|done|rfl|(simp only [List.length_drop,List.length_take];rfl)) ?_;(with_reducible refine (key_Union.calls x110000_1 x110001_1 x110002_1 x110003_1 ((rd_T35 l0 x16_1).f0) ((rd_T35 l0 x16_1).f1) ((rd_T35 l0 x16_1).f2) ((rd_T35 l0 x16_1).f3) t113 t114 t115 t116 _ A15.out).mono ?_);rintro e w24 ⟨rfl,hb⟩;refine ⟨_,rfl,?_⟩;have n0_:=Ak (kB (g:=gb107) (o:=.cells #[.int .i64 x108000_1,.int .i64 x108001_1,.int .i64 x108002_1,.int .i64 x108003_1] 35 (0,0)) (by (with_reducible repeat (first|refine kN ?_ _|refine kD ?_|refine kA ?_ _));exact BK107.out) hb);have n1_:=Ak (kB (g:=gb109) (o:=.cells #[.int .i64 x110000_1,.int .i64 x110001_1,.int .i64 x110002_1,.int .i64 x110003_1] 35 (0,0)) (by (with_reducible repeat (first|refine kN ?_ _|refine kD ?_|refine kA ?_ _));exact BK109.out) hb);have n2_:=Ak (kB (g:=gb111) (o:=.cells #[.int .i64 ((rd_T35 l0 x16_1).f0),.int .i64 ((rd_T35 l0 x16_1).f1),.int .i64 ((rd_T35 l0 x16_1).f2),.int .i64 ((rd_T35 l0 x16_1).f3)] 35 (0,0)) (by (with_reducible repeat (first|refine kN ?_ _|refine kD ?_|refine kA ?_ _));exact BK111.out) hb);have n3_:=Ak (below_step (by repeat (first|(with_reducible first|exact HB.out|apply bA|apply bN|apply bD|refine bS ?_ GE107.out|refine bS ?_ GE109.out|refine bS ?_ GE111.out)|exact HB.out)) hb);clear BK107;clear BK109;clear BK111;clear HB;have BK107:=n0_;have BK109:=n1_;have BK111:=n2_;have HB:=n3_;clear n0_ n1_ n2_ n3_;(try clear hb);(try clear hb2);(try clear hk);(try clear hi);have hcz25_0 : w24.cell? ⟨gb109,0,none⟩ = some (.int .i64 x110000_1):=(kC BK109.out 0).trans rfl;have hcz25_1 : w24.cell? ⟨gb109,1,none⟩ = some (.int .i64 x110001_1):=(kC BK109.out 1).trans rfl;have hcz25_2 : w24.cell? ⟨gb109,2,none⟩ = some (.int .i64 x110002_1):=(kC BK109.out 2).trans rfl;have hcz25_3 : w24.cell? ⟨gb109,3,none⟩ = some (.int .i64 x110003_1):=(kC BK109.out 3).trans rfl;have hfz25_0:=blk_frozen BK109.out 0;have hfz25_1:=blk_frozen BK109.out 1;have hfz25_2:=blk_frozen BK109.out 2;have hfz25_3:=blk_frozen BK109.out 3))
         go_roundg k1
         case measure => have:=HK1.out;omega
         case rel => exact ⟨(wrap64 (x16_1+1)),(x108000_1),(x108001_1),(x108002_1),(x108003_1),(t113),(t114),(t115),(t116),(by first|rfl|(simp;done)|(simp [*];done)),H',⟨by have:=HK1.out;omega⟩,⟨by (with_reducible repeat (first|refine kN ?_ _|refine kD ?_|refine kA ?_ _));refine blk_far ?_ NB107_109.out _;(with_reducible repeat (first|refine kN ?_ _|refine kD ?_|refine kA ?_ _));refine blk_far ?_ NB107_109.out _;(with_reducible repeat (first|refine kN ?_ _|refine kD ?_|refine kA ?_ _));refine blk_far ?_ NB107_109.out _;(with_reducible repeat (first|refine kN ?_ _|refine kD ?_|refine kA ?_ _));refine blk_far ?_ NB107_109.out _;(with_reducible repeat (first|refine kN ?_ _|refine kD ?_|refine kA ?_ _));exact BK107.out⟩,⟨by (with_reducible repeat (first|refine kN ?_ _|refine kD ?_|refine kA ?_ _));refine blk_put (cs:=#[.int .i64 t113,.int .i64 t114,.int .i64 t115,.int .i64 x110003_1]) ?_ 3 _ rfl;(with_reducible repeat (first|refine kN ?_ _|refine kD ?_|refine kA ?_ _));refine blk_put (cs:=#[.int .i64 t113,.int .i64 t114,.int .i64 x110002_1,.int .i64 x110003_1]) ?_ 2 _ rfl;(with_reducible repeat (first|refine kN ?_ _|refine kD ?_|refine kA ?_ _));refine blk_put (cs:=#[.int .i64 t113,.int .i64 x110001_1,.int .i64 x110002_1,.int .i64 x110003_1]) ?_ 1 _ rfl;(with_reducible repeat (first|refine kN ?_ _|refine kD ?_|refine kA ?_ _));refine blk_put (cs:=#[.int .i64 x110000_1,.int .i64 x110001_1,.int .i64 x110002_1,.int .i64 x110003_1]) ?_ 0 _ rfl;(with_reducible repeat (first|refine kN ?_ _|refine kD ?_|refine kA ?_ _));exact BK109.out⟩,⟨by repeat (first|(with_reducible first|exact HB.out|apply bA|apply bN|apply bD|refine bS ?_ GE107.out|refine bS ?_ GE109.out|refine bS ?_ GE111.out)|exact HB.out)⟩⟩
        ·replace c14:=Bool.eq_false_iff.mpr c14
         subst c14
         have H1 : (some (0,0,0,0,2)) = some (r1,r2,r3,r4,r5):=by rw [if_neg (show ¬ (false = true) by decide)] at H;exact H
         clear H
         have H:=H1
         clear H1
         simp only [Option.some.injEq,Prod.mk.injEq] at H
         obtain ⟨rfl,rfl,rfl,rfl,rfl⟩:=H
         have p110 : 0 ≤ (x16_1 : Int):=of_decide_eq_true (by first|(with_reducible assumption)|assumption)
         have q110 : x16_1 < (l0.length : Int):=of_decide_eq_true (by first|(with_reducible assumption)|assumption)
         obtain ⟨ad110,e110,hx110_0,hx110_1,hx110_2,hx110_3⟩:=at_T35 HR0.out x16_1 p110 q110
         obtain rfl : ad108 = ad110:=(by injection e110)
         replace hx110_0:=(HB.out.cell (World.block_lt_of_cell? w _ hx110_0)).trans hx110_0
         replace hx110_1:=(HB.out.cell (World.block_lt_of_cell? w _ hx110_1)).trans hx110_1
         replace hx110_2:=(HB.out.cell (World.block_lt_of_cell? w _ hx110_2)).trans hx110_2
         replace hx110_3:=(HB.out.cell (World.block_lt_of_cell? w _ hx110_3)).trans hx110_3
         replace p110:=eq_true p110
         replace q110:=eq_true q110
         go_wp2_with (first|((with_reducible refine gate_dst (N:=6) rfl ?_);refine box_event ?hg (N:=6) ?hd (cs:=#[.int .i64 0,.int .i64 0,.int .i64 0,.int .i64 0]) (t:=35) ?hr ?_;(case hd => rfl);(case hg => rfl);(case hr => first|(go_simp;done)|(go_simp;rfl));intro gb111 hg w26 hbox hb;have n0_:=Ak (kB (g:=gb107) (o:=.cells #[.int .i64 x108000_1,.int .i64 x108001_1,.int .i64 x108002_1,.int .i64 x108003_1] 35 (0,0)) (by (with_reducible repeat (first|refine kN ?_ _|refine kD ?_|refine kA ?_ _));exact BK107.out) hb);have n1_:=Ak (kB (g:=gb109) (o:=.cells #[.int .i64 x110000_1,.int .i64 x110001_1,.int .i64 x110002_1,.int .i64 x110003_1] 35 (0,0)) (by (with_reducible repeat (first|refine kN ?_ _|refine kD ?_|refine kA ?_ _));exact BK109.out) hb);have n2_:=Ak (below_step (by repeat (first|(with_reducible first|exact HB.out|apply bA|apply bN|apply bD|refine bS ?_ GE107.out|refine bS ?_ GE109.out)|exact HB.out)) hb);have n3_:=Ak (hbox);have n4_:=Ak ((by rw [hg];exact (below_size (by repeat (first|(with_reducible first|exact HB.out|apply bA|apply bN|apply bD|refine bS ?_ GE107.out|refine bS ?_ GE109.out)|exact HB.out))) : w.heap.size ≤ gb111));have n5_:=Ak ((by rw [hg];exact (below_size (by repeat (first|(with_reducible first|exact HB.out|apply bA|apply bN|apply bD|refine bS ?_ GE107.out|refine bS ?_ GE109.out)|exact HB.out))) : w.heap.size ≤ gb111));have n6_:=Ak ((by rw [hg];exact Nat.ne_of_lt (blk_lt (g:=gb107) (o:=.cells #[.int .i64 x108000_1,.int .i64 x108001_1,.int .i64 x108002_1,.int .i64 x108003_1] 35 (0,0)) (by (with_reducible repeat (first|refine kN ?_ _|refine kD ?_|refine kA ?_ _));exact BK107.out)) : gb107 ≠ gb111));have n7_:=Ak ((by rw [hg];exact Nat.ne_of_gt (blk_lt (g:=gb107) (o:=.cells #[.int .i64 x108000_1,.int .i64 x108001_1,.int .i64 x108002_1,.int .i64 x108003_1] 35 (0,0)) (by (with_reducible repeat (first|refine kN ?_ _|refine kD ?_|refine kA ?_ _));exact BK107.out)) : gb111 ≠ gb107));have n8_:=Ak ((by rw [hg];exact Nat.ne_of_lt (blk_lt (g:=gb109) (o:=.cells #[.int .i64 x110000_1,.int .i64 x110001_1,.int .i64 x110002_1,.int .i64 x110003_1] 35 (0,0)) (by (with_reducible repeat (first|refine kN ?_ _|refine kD ?_|refine kA ?_ _));exact BK109.out)) : gb109 ≠ gb111));have n9_:=Ak ((by rw [hg];exact Nat.ne_of_gt (blk_lt (g:=gb109) (o:=.cells #[.int .i64 x110000_1,.int .i64 x110001_1,.int .i64 x110002_1,.int .i64 x110003_1] 35 (0,0)) (by (with_reducible repeat (first|refine kN ?_ _|refine kD ?_|refine kA ?_ _));exact BK109.out)) : gb111 ≠ gb109));clear BK107;clear BK109;clear HB;have BK107:=n0_;have BK109:=n1_;have HB:=n2_;have BK111:=n3_;have GW111:=n4_;have GE111:=n5_;have NB107_111:=n6_;have NB111_107:=n7_;have NB109_111:=n8_;have NB111_109:=n9_;clear n0_ n1_ n2_ n3_ n4_ n5_ n6_ n7_ n8_ n9_;clear hb hbox hg;have hnb27:=NB111_107.out;have hnc27:=NB107_111.out;have hnb28:=NB111_109.out;have hnc28:=NB109_111.out;have hcz29_0 : w26.cell? ⟨gb111,0,none⟩ = some (.int .i64 0):=(kC BK111.out 0).trans rfl;have hcz29_1 : w26.cell? ⟨gb111,1,none⟩ = some (.int .i64 0):=(kC BK111.out 1).trans rfl;have hcz29_2 : w26.cell? ⟨gb111,2,none⟩ = some (.int .i64 0):=(kC BK111.out 2).trans rfl;have hcz29_3 : w26.cell? ⟨gb111,3,none⟩ = some (.int .i64 0):=(kC BK111.out 3).trans rfl;have hfz29_0:=blk_frozen BK111.out 0;have hfz29_1:=blk_frozen BK111.out 1;have hfz29_2:=blk_frozen BK111.out 2;have hfz29_3:=blk_frozen BK111.out 3)|((with_reducible refine gate_callee (f:=57) rfl ?_);refine goesL_ (some 21) rfl rfl Try.func57 (by kernel_rfl) rfl #[.agg #[.int .i64 ((rd_T35 l0 x16_1).f0),.int .i64 ((rd_T35 l0 x16_1).f1),.int .i64 ((rd_T35 l0 x16_1).f2),.int .i64 ((rd_T35 l0 x16_1).f3)]] rfl (by (try simp only [List.map_toArray,List.map_cons,List.map_nil]);first|done|rfl|(simp only [List.length_drop,List.length_take];rfl)) ?_;(with_reducible refine (key_box.calls ((rd_T35 l0 x16_1).f0) ((rd_T35 l0 x16_1).f1) ((rd_T35 l0 x16_1).f2) ((rd_T35 l0 x16_1).f3) false _ A13.out).mono ?_);rintro e w30 ⟨rfl,hb⟩;refine ⟨_,rfl,?_⟩;have n0_:=Ak (kB (g:=gb107) (o:=.cells #[.int .i64 x108000_1,.int .i64 x108001_1,.int .i64 x108002_1,.int .i64 x108003_1] 35 (0,0)) (by (with_reducible repeat (first|refine kN ?_ _|refine kD ?_|refine kA ?_ _));refine blk_far ?_ NB107_111.out _;(with_reducible repeat (first|refine kN ?_ _|refine kD ?_|refine kA ?_ _));refine blk_far ?_ NB107_111.out _;(with_reducible repeat (first|refine kN ?_ _|refine kD ?_|refine kA ?_ _));refine blk_far ?_ NB107_111.out _;(with_reducible repeat (first|refine kN ?_ _|refine kD ?_|refine kA ?_ _));refine blk_far ?_ NB107_111.out _;(with_reducible repeat (first|refine kN ?_ _|refine kD ?_|refine kA ?_ _));exact BK107.out) hb);have n1_:=Ak (kB (g:=gb109) (o:=.cells #[.int .i64 x110000_1,.int .i64 x110001_1,.int .i64 x110002_1,.int .i64 x110003_1] 35 (0,0)) (by (with_reducible repeat (first|refine kN ?_ _|refine kD ?_|refine kA ?_ _));refine blk_far ?_ NB109_111.out _;(with_reducible repeat (first|refine kN ?_ _|refine kD ?_|refine kA ?_ _));refine blk_far ?_ NB109_111.out _;(with_reducible repeat (first|refine kN ?_ _|refine kD ?_|refine kA ?_ _));refine blk_far ?_ NB109_111.out _;(with_reducible repeat (first|refine kN ?_ _|refine kD ?_|refine kA ?_ _));refine blk_far ?_ NB109_111.out _;(with_reducible repeat (first|refine kN ?_ _|refine kD ?_|refine kA ?_ _));exact BK109.out) hb);have n2_:=Ak (kB (g:=gb111) (o:=.cells #[.int .i64 ((rd_T35 l0 x16_1).f0),.int .i64 ((rd_T35 l0 x16_1).f1),.int .i64 ((rd_T35 l0 x16_1).f2),.int .i64 ((rd_T35 l0 x16_1).f3)] 35 (0,0)) (by (with_reducible repeat (first|refine kN ?_ _|refine kD ?_|refine kA ?_ _));refine blk_put (cs:=#[.int .i64 ((rd_T35 l0 x16_1).f0),.int .i64 ((rd_T35 l0 x16_1).f1),.int .i64 ((rd_T35 l0 x16_1).f2),.int .i64 0]) ?_ 3 _ rfl;(with_reducible repeat (first|refine kN ?_ _|refine kD ?_|refine kA ?_ _));refine blk_put (cs:=#[.int .i64 ((rd_T35 l0 x16_1).f0),.int .i64 ((rd_T35 l0 x16_1).f1),.int .i64 0,.int .i64 0]) ?_ 2 _ rfl;(with_reducible repeat (first|refine kN ?_ _|refine kD ?_|refine kA ?_ _));refine blk_put (cs:=#[.int .i64 ((rd_T35 l0 x16_1).f0),.int .i64 0,.int .i64 0,.int .i64 0]) ?_ 1 _ rfl;(with_reducible repeat (first|refine kN ?_ _|refine kD ?_|refine kA ?_ _));refine blk_put (cs:=#[.int .i64 0,.int .i64 0,.int .i64 0,.int .i64 0]) ?_ 0 _ rfl;(with_reducible repeat (first|refine kN ?_ _|refine kD ?_|refine kA ?_ _));exact BK111.out) hb);have n3_:=Ak (below_step (by repeat (first|(with_reducible first|exact HB.out|apply bA|apply bN|apply bD|refine bS ?_ GE107.out|refine bS ?_ GE109.out|refine bS ?_ GE111.out)|exact HB.out)) hb);clear BK107;clear BK109;clear BK111;clear HB;have BK107:=n0_;have BK109:=n1_;have BK111:=n2_;have HB:=n3_;clear n0_ n1_ n2_ n3_;(try clear hb);(try clear hb2);(try clear hk);(try clear hi);have hnb31:=NB107_109.out;have hnc31:=NB109_107.out;have hcz32_0 : w30.cell? ⟨gb107,0,none⟩ = some (.int .i64 x108000_1):=(kC BK107.out 0).trans rfl;have hcz32_1 : w30.cell? ⟨gb107,1,none⟩ = some (.int .i64 x108001_1):=(kC BK107.out 1).trans rfl;have hcz32_2 : w30.cell? ⟨gb107,2,none⟩ = some (.int .i64 x108002_1):=(kC BK107.out 2).trans rfl;have hcz32_3 : w30.cell? ⟨gb107,3,none⟩ = some (.int .i64 x108003_1):=(kC BK107.out 3).trans rfl;have hfz32_0:=blk_frozen BK107.out 0;have hfz32_1:=blk_frozen BK107.out 1;have hfz32_2:=blk_frozen BK107.out 2;have hfz32_3:=blk_frozen BK107.out 3))
         refine bodyPost_ret (results_ct rfl _ _ gb107 35 #[.int .i64 0,.int .i64 0,.int .i64 0,.int .i64 0] (0,0) _ rfl (by (with_reducible repeat (first|refine kN ?_ _|refine kD ?_|refine kA ?_ _));refine blk_put (cs:=#[.int .i64 0,.int .i64 0,.int .i64 0,.int .i64 x108003_1]) ?_ 3 _ rfl;(with_reducible repeat (first|refine kN ?_ _|refine kD ?_|refine kA ?_ _));refine blk_put (cs:=#[.int .i64 0,.int .i64 0,.int .i64 x108002_1,.int .i64 x108003_1]) ?_ 2 _ rfl;(with_reducible repeat (first|refine kN ?_ _|refine kD ?_|refine kA ?_ _));refine blk_put (cs:=#[.int .i64 0,.int .i64 x108001_1,.int .i64 x108002_1,.int .i64 x108003_1]) ?_ 1 _ rfl;(with_reducible repeat (first|refine kN ?_ _|refine kD ?_|refine kA ?_ _));refine blk_put (cs:=#[.int .i64 x108000_1,.int .i64 x108001_1,.int .i64 x108002_1,.int .i64 x108003_1]) ?_ 0 _ rfl;(with_reducible repeat (first|refine kN ?_ _|refine kD ?_|refine kA ?_ _));exact BK107.out) Try.underlying35 rfl (by kernel_rfl)) rfl ?_
         exact ⟨by first|rfl|(simp [errW_none,errW_some] <;> rfl)|(simp [*,errW_none,errW_some] <;> rfl),by repeat (first|(with_reducible first|exact HB.out|apply bA|apply bN|apply bD|refine bS ?_ GE107.out|refine bS ?_ GE109.out|refine bS ?_ GE111.out)|exact HB.out)⟩
       ·rw [if_neg c12] at H
        exact absurd H (by simp)
      ·rw [if_neg c11] at H
       exact absurd H (by simp)
     ·rw [if_neg c10] at H
      have c10b0 : decide (x16_1 < (l0.length : Int)) = false:=decide_eq_false c10
      clear c10
      simp only [Option.some.injEq,Prod.mk.injEq] at H
      obtain ⟨rfl,rfl,rfl,rfl,rfl⟩:=H
      have hnb33:=NB109_107.out
      have hnc33:=NB107_109.out
      have hcz34_0 : wr.cell? ⟨gb109,0,none⟩ = some (.int .i64 x110000_1):=(kC BK109.out 0).trans rfl
      have hcz34_1 : wr.cell? ⟨gb109,1,none⟩ = some (.int .i64 x110001_1):=(kC BK109.out 1).trans rfl
      have hcz34_2 : wr.cell? ⟨gb109,2,none⟩ = some (.int .i64 x110002_1):=(kC BK109.out 2).trans rfl
      have hcz34_3 : wr.cell? ⟨gb109,3,none⟩ = some (.int .i64 x110003_1):=(kC BK109.out 3).trans rfl
      have hfz34_0:=blk_frozen BK109.out 0
      have hfz34_1:=blk_frozen BK109.out 1
      have hfz34_2:=blk_frozen BK109.out 2
      have hfz34_3:=blk_frozen BK109.out 3
      have hcz35_0 : wr.cell? ⟨gb107,0,none⟩ = some (.int .i64 x108000_1):=(kC BK107.out 0).trans rfl
      have hcz35_1 : wr.cell? ⟨gb107,1,none⟩ = some (.int .i64 x108001_1):=(kC BK107.out 1).trans rfl
      have hcz35_2 : wr.cell? ⟨gb107,2,none⟩ = some (.int .i64 x108002_1):=(kC BK107.out 2).trans rfl
      have hcz35_3 : wr.cell? ⟨gb107,3,none⟩ = some (.int .i64 x108003_1):=(kC BK107.out 3).trans rfl
      have hfz35_0:=blk_frozen BK107.out 0
      have hfz35_1:=blk_frozen BK107.out 1
      have hfz35_2:=blk_frozen BK107.out 2
      have hfz35_3:=blk_frozen BK107.out 3
      go_wp2
      refine bodyPost_ret (results_ct rfl _ _ gb107 35 #[.int .i64 x110000_1,.int .i64 x110001_1,.int .i64 x110002_1,.int .i64 x110003_1] (0,0) _ rfl (by (with_reducible repeat (first|refine kN ?_ _|refine kD ?_|refine kA ?_ _));refine blk_put (cs:=#[.int .i64 x110000_1,.int .i64 x110001_1,.int .i64 x110002_1,.int .i64 x108003_1]) ?_ 3 _ rfl;(with_reducible repeat (first|refine kN ?_ _|refine kD ?_|refine kA ?_ _));refine blk_put (cs:=#[.int .i64 x110000_1,.int .i64 x110001_1,.int .i64 x108002_1,.int .i64 x108003_1]) ?_ 2 _ rfl;(with_reducible repeat (first|refine kN ?_ _|refine kD ?_|refine kA ?_ _));refine blk_put (cs:=#[.int .i64 x110000_1,.int .i64 x108001_1,.int .i64 x108002_1,.int .i64 x108003_1]) ?_ 1 _ rfl;(with_reducible repeat (first|refine kN ?_ _|refine kD ?_|refine kA ?_ _));refine blk_put (cs:=#[.int .i64 x108000_1,.int .i64 x108001_1,.int .i64 x108002_1,.int .i64 x108003_1]) ?_ 0 _ rfl;(with_reducible repeat (first|refine kN ?_ _|refine kD ?_|refine kA ?_ _));exact BK107.out) Try.underlying35 rfl (by kernel_rfl)) rfl ?_
      exact ⟨by first|rfl|(simp [errW_none,errW_some] <;> rfl)|(simp [*,errW_none,errW_some] <;> rfl),by repeat (first|(with_reducible first|exact HB.out|apply bA|apply bN|apply bD|refine bS ?_ GE107.out|refine bS ?_ GE109.out)|exact HB.out)⟩
  ·rw [if_neg c5] at H
   exact absurd H (by simp)
end Go.Proofs.Ythlhmijgbjcloaa.A
end
section
namespace Go.Proofs.Ythlhmijgbjcloaa.A
open Go.RowKit Go.Proofs.YthlhmijgbjcloaaW.PrintWords Go.Proofs.YthlhmijgbjcloaaW.PrintLast Go.Proofs.YthlhmijgbjcloaaW.PrintMore
attribute [local go_sem] max2_int min2_int max_two min_two max_three min_three max_four min_four   -- for this text's walks alone
def isIB (a : Int) : Bool:=decide (-9223372036854775808 ≤ a) && decide (a ≤ 9223372036854775807)
def isUB (a : Int) : Bool:=decide (0 ≤ a) && decide (a < 18446744073709551616)
theorem isI_of {a : Int} (h : isIB a = true) : isI a:=by unfold isIB at h;unfold isI;simpa using h
theorem isU_of {a : Int} (h : isUB a = true) : isU a:=by unfold isUB at h;unfold isU;simpa using h
def num (h l : Int) : Int:=h * 18446744073709551616+l
theorem num_hl {h l : Int} (hh : isU h) (hl : isU l) : in128 (num h l)∧hi64 (num h l) = h∧lo64 (num h l) = l:=by
 unfold isU at hh hl
 unfold in128 hi64 lo64 num
 omega
def areaF (x0 x1 y0 y1 : Int) : Option (Int × Int):=if (isIB x0 && isIB x1 && isIB y0 && isIB y1) = true then some (hi64 (widthI x0 x1 * widthI y0 y1),lo64 (widthI x0 x1 * widthI y0 y1)) else none
def marginF (x0 x1 y0 y1 : Int) : Option (Int × Int):=if (isIB x0 && isIB x1 && isIB y0 && isIB y1) = true then some (hi64 (widthI x0 x1+widthI y0 y1),lo64 (widthI x0 x1+widthI y0 y1)) else none
def subF (ah al bh bl : Int) : Option (Int × Int × Bool):=if (isUB ah && isUB al && isUB bh && isUB bl) = true then some (hi64 (m128 (num ah al - num bh bl)),lo64 (m128 (num ah al - num bh bl)),decide (num bh bl ≤ num ah al)) else none
def cmpF (ah al bh bl : Int) : Option Int:=if (isUB ah && isUB al && isUB bh && isUB bl) = true then some (cmpN (num ah al) (num bh bl)) else none
def wide_Area.f (a0_0 : Int) (a0_1 : Int) (a0_2 : Int) (a0_3 : Int) : Option (Int × Int):=areaF a0_0 a0_1 a0_2 a0_3
theorem wide_Area.calls (a0_0 : Int) (a0_1 : Int) (a0_2 : Int) (a0_3 : Int) (r1 : Int) (r2 : Int) (w : World) (h : wide_Area.f a0_0 a0_1 a0_2 a0_3 = some (r1,r2)) :
  Calls Try.prog 24 #[.agg #[.int .i64 a0_0,.int .i64 a0_1,.int .i64 a0_2,.int .i64 a0_3]] w fun e w' => e = .returned (.agg #[.int .u64 r1,.int .u64 r2])∧Below w.heap.size w w':=by
 unfold wide_Area.f areaF at h
 split at h
 ·rename_i hk
  simp only [Bool.and_eq_true] at hk
  obtain ⟨⟨⟨g0,g1⟩,g2⟩,g3⟩:=hk
  injection h with h
  injection h with h1 h2
  subst h1
  subst h2
  exact area_any a0_0 a0_1 a0_2 a0_3 w (width_isU (isI_of g0) (isI_of g1)) (width_isU (isI_of g2) (isI_of g3))
 ·cases h
end Go.Proofs.Ythlhmijgbjcloaa.A
end
section
namespace Go.Proofs.Ythlhmijgbjcloaa.A
open Go.RowKit Go.Proofs.YthlhmijgbjcloaaW.PrintWords Go.Proofs.YthlhmijgbjcloaaW.PrintLast Go.Proofs.YthlhmijgbjcloaaW.PrintMore
attribute [local go_sem] max2_int min2_int max_two min_two max_three min_three max_four min_four   -- for this text's walks alone
def wide_Cmp.f (a0_0 : Int) (a0_1 : Int) (a1_0 : Int) (a1_1 : Int) : Option Int:=cmpF a0_0 a0_1 a1_0 a1_1
theorem wide_Cmp.calls (a0_0 : Int) (a0_1 : Int) (a1_0 : Int) (a1_1 : Int) (r : Int) (w : World) (h : wide_Cmp.f a0_0 a0_1 a1_0 a1_1 = some r) :
  Calls Try.prog 20 #[.agg #[.int .u64 a0_0,.int .u64 a0_1],.agg #[.int .u64 a1_0,.int .u64 a1_1]] w fun e w' => e = .returned (.int .i64 r)∧Below w.heap.size w w':=by
 unfold wide_Cmp.f cmpF at h
 split at h
 ·rename_i hk
  simp only [Bool.and_eq_true] at hk
  obtain ⟨⟨⟨g0,g1⟩,g2⟩,g3⟩:=hk
  injection h with h
  subst h
  obtain ⟨m1,m2,m3⟩:=num_hl (isU_of g0) (isU_of g1)
  obtain ⟨n1,n2,n3⟩:=num_hl (isU_of g2) (isU_of g3)
  have:=cmp_n (num a0_0 a0_1) (num a1_0 a1_1) w
  unfold wd at this
  rw [m2,m3,n2,n3] at this
  exact this
 ·cases h
end Go.Proofs.Ythlhmijgbjcloaa.A
end
section
namespace Go.Proofs.Ythlhmijgbjcloaa.A
open Go.RowKit Go.Proofs.YthlhmijgbjcloaaW.PrintWords Go.Proofs.YthlhmijgbjcloaaW.PrintLast Go.Proofs.YthlhmijgbjcloaaW.PrintMore
attribute [local go_sem] max2_int min2_int max_two min_two max_three min_three max_four min_four   -- for this text's walks alone
def key_size_below.f (a0_0 : Int) (a0_1 : Int) (a0_2 : Int) (a0_3 : Int) (a1_0 : Int) (a1_1 : Int) (a1_2 : Int) (a1_3 : Int) : Option (Bool) := (wide_Cmp.f a0_0 a0_1 a1_0 a1_1).bind fun t119 => (if t119 < 0 then (some true) else (if t119 = 0 then ((wide_Cmp.f a0_2 a0_3 a1_2 a1_3).bind fun t120 => (some (decide (t120 < 0)))) else (some false)))
set_option maxHeartbeats 8000000 in
set_option maxRecDepth 100000 in
theorem key_size_below.calls (a0_0 : Int) (a0_1 : Int) (a0_2 : Int) (a0_3 : Int) (a1_0 : Int) (a1_1 : Int) (a1_2 : Int) (a1_3 : Int) (r : Bool) (w : World) (h : key_size_below.f a0_0 a0_1 a0_2 a0_3 a1_0 a1_1 a1_2 a1_3 = some r) :
  Calls Try.prog 60 #[.agg #[.int .u64 a0_0,.int .u64 a0_1,.int .u64 a0_2,.int .u64 a0_3],.agg #[.int .u64 a1_0,.int .u64 a1_1,.int .u64 a1_2,.int .u64 a1_3]] w fun e w' => e = .returned (.bool r)∧Below w.heap.size w w':=by
 have hu79:=Try.underlying79
 have hu25:=Try.underlying25
 have HB:=Ak (Below.refl w.heap.size w)
 have H : ((wide_Cmp.f a0_0 a0_1 a1_0 a1_1).bind fun t119 => (if t119 < 0 then (some true) else (if t119 = 0 then ((wide_Cmp.f a0_2 a0_3 a1_2 a1_3).bind fun t120 => (some (decide (t120 < 0)))) else (some false)))) = some r:=h
 clear h
 replace H:=Option.bind_eq_some_iff.mp H
 obtain ⟨t119,A30,H⟩:=H
 replace H : (if t119 < 0 then (some true) else (if t119 = 0 then ((wide_Cmp.f a0_2 a0_3 a1_2 a1_3).bind fun t120 => (some (decide (t120 < 0)))) else (some false))) = some r:=H
 have A3:=Ak A30
 clear A30
 by_cases c4 : t119 < 0
 ·rw [if_pos c4] at H
  have c4b0 : decide (t119 < 0) = true:=decide_eq_true c4
  clear c4
  obtain rfl:=Option.some.inj H
  go_enter Try.func60,Try.ntmps60
  go_wp2_with (first|((with_reducible refine gate_dst (N:=2) rfl ?_);refine box_event ?hg (N:=2) ?hd (cs:=#[.int .u64 a0_0,.int .u64 a0_1,.int .u64 a0_2,.int .u64 a0_3]) (t:=79) ?hr ?_;(case hd => rfl);(case hg => rfl);(case hr => first|(go_simp;done)|(go_simp;rfl));intro gb117 hg w5 hbox hb;have n0_:=Kh HB hb;have n1_:=Ak (hbox);have n2_:=Ak ((by rw [hg];exact (below_size HB.out) : w.heap.size ≤ gb117));have n3_:=Ak ((by rw [hg];exact (below_size HB.out) : w.heap.size ≤ gb117));clear HB;have HB:=n0_;have BK117:=n1_;have GW117:=n2_;have GE117:=n3_;clear n0_ n1_ n2_ n3_;clear hb hbox hg)|((with_reducible refine gate_dst (N:=3) rfl ?_);refine box_event ?hg (N:=3) ?hd (cs:=#[.int .u64 a1_0,.int .u64 a1_1,.int .u64 a1_2,.int .u64 a1_3]) (t:=79) ?hr ?_;(case hd => rfl);(case hg => rfl);(case hr => first|(go_simp;done)|(go_simp;rfl));intro gb118 hg w6 hbox hb;have n0_:=Kb BK117 hb;have n1_:=Kh HB hb;have n2_:=Ak (hbox);have n3_:=Ak ((by rw [hg];exact (below_size HB.out) : w.heap.size ≤ gb118));have n4_:=Ak ((by rw [hg];exact (below_size HB.out) : w.heap.size ≤ gb118));have n5_:=Ak ((by rw [hg];exact Nat.ne_of_lt (blk_lt (g:=gb117) (o:=.cells #[.int .u64 a0_0,.int .u64 a0_1,.int .u64 a0_2,.int .u64 a0_3] 79 (0,0)) BK117.out) : gb117 ≠ gb118));have n6_:=Ak ((by rw [hg];exact Nat.ne_of_gt (blk_lt (g:=gb117) (o:=.cells #[.int .u64 a0_0,.int .u64 a0_1,.int .u64 a0_2,.int .u64 a0_3] 79 (0,0)) BK117.out) : gb118 ≠ gb117));clear BK117;clear HB;have BK117:=n0_;have HB:=n1_;have BK118:=n2_;have GW118:=n3_;have GE118:=n4_;have NB117_118:=n5_;have NB118_117:=n6_;clear n0_ n1_ n2_ n3_ n4_ n5_ n6_;clear hb hbox hg;have hnb7:=NB117_118.out;have hnc7:=NB118_117.out;have hcz8_0 : w6.cell? ⟨gb117,0,none⟩ = some (.int .u64 a0_0):=(kC BK117.out 0).trans rfl;have hcz8_1 : w6.cell? ⟨gb117,1,none⟩ = some (.int .u64 a0_1):=(kC BK117.out 1).trans rfl;have hcz8_2 : w6.cell? ⟨gb117,2,none⟩ = some (.int .u64 a0_2):=(kC BK117.out 2).trans rfl;have hcz8_3 : w6.cell? ⟨gb117,3,none⟩ = some (.int .u64 a0_3):=(kC BK117.out 3).trans rfl;have hfz8_0:=blk_frozen BK117.out 0;have hfz8_1:=blk_frozen BK117.out 1;have hfz8_2:=blk_frozen BK117.out 2;have hfz8_3:=blk_frozen BK117.out 3;have hcz9_0 : w6.cell? ⟨gb118,0,none⟩ = some (.int .u64 a1_0):=(kC BK118.out 0).trans rfl;have hcz9_1 : w6.cell? ⟨gb118,1,none⟩ = some (.int .u64 a1_1):=(kC BK118.out 1).trans rfl;have hcz9_2 : w6.cell? ⟨gb118,2,none⟩ = some (.int .u64 a1_2):=(kC BK118.out 2).trans rfl;have hcz9_3 : w6.cell? ⟨gb118,3,none⟩ = some (.int .u64 a1_3):=(kC BK118.out 3).trans rfl;have hfz9_0:=blk_frozen BK118.out 0;have hfz9_1:=blk_frozen BK118.out 1;have hfz9_2:=blk_frozen BK118.out 2;have hfz9_3:=blk_frozen BK118.out 3)|((with_reducible refine gate_callee (f:=20) rfl ?_);refine goesL_ (some 10) rfl rfl Try.func20 (by kernel_rfl) rfl #[.agg #[.int .u64 a0_0,.int .u64 a0_1],.agg #[.int .u64 a1_0,.int .u64 a1_1]] rfl (by (try simp only [List.map_toArray,List.map_cons,List.map_nil]);first|done|rfl|(simp only [List.length_drop,List.length_take];rfl)) ?_;(with_reducible refine (wide_Cmp.calls a0_0 a0_1 a1_0 a1_1 t119 _ A3.out).mono ?_);rintro e w10 ⟨rfl,hb⟩;refine ⟨_,rfl,?_⟩;have n0_:=Kb BK117 hb;have n1_:=Kb BK118 hb;have n2_:=Kh HB hb;clear BK117;clear BK118;clear HB;have BK117:=n0_;have BK118:=n1_;have HB:=n2_;clear n0_ n1_ n2_;(try clear hb);(try clear hb2);(try clear hk);(try clear hi)))
  go_ret
  exact ⟨by first|rfl|(simp [errW_none,errW_some] <;> rfl)|(simp [*,errW_none,errW_some] <;> rfl),by repeat (first|(with_reducible first|exact HB.out|apply bA|apply bN|apply bD|refine bS ?_ GE117.out|refine bS ?_ GE118.out)|exact HB.out)⟩
 ·rw [if_neg c4] at H
  have c4b0 : decide (t119 < 0) = false:=decide_eq_false c4
  clear c4
  by_cases c11 : t119 = 0
  ·rw [if_pos c11] at H
   have c11b0 : (t119 == 0) = true:=beq_iff_eq.mpr c11
   have c11b1 : (t119 != 0) = false:=bne_eq_false_iff_eq.mpr c11
   clear c11
   replace H:=Option.bind_eq_some_iff.mp H
   obtain ⟨t120,A120,H⟩:=H
   replace H : (some (decide (t120 < 0))) = some r:=H
   have A12:=Ak A120
   clear A120
   obtain rfl:=Option.some.inj H
   go_enter Try.func60,Try.ntmps60
   go_wp2_with (first|((with_reducible refine gate_dst (N:=2) rfl ?_);refine box_event ?hg (N:=2) ?hd (cs:=#[.int .u64 a0_0,.int .u64 a0_1,.int .u64 a0_2,.int .u64 a0_3]) (t:=79) ?hr ?_;(case hd => rfl);(case hg => rfl);(case hr => first|(go_simp;done)|(go_simp;rfl));intro gb117 hg w13 hbox hb;have n0_:=Kh HB hb;have n1_:=Ak (hbox);have n2_:=Ak ((by rw [hg];exact (below_size HB.out) : w.heap.size ≤ gb117));have n3_:=Ak ((by rw [hg];exact (below_size HB.out) : w.heap.size ≤ gb117));clear HB;have HB:=n0_;have BK117:=n1_;have GW117:=n2_;have GE117:=n3_;clear n0_ n1_ n2_ n3_;clear hb hbox hg)|((with_reducible refine gate_dst (N:=3) rfl ?_);refine box_event ?hg (N:=3) ?hd (cs:=#[.int .u64 a1_0,.int .u64 a1_1,.int .u64 a1_2,.int .u64 a1_3]) (t:=79) ?hr ?_;(case hd => rfl);(case hg => rfl);(case hr => first|(go_simp;done)|(go_simp;rfl));intro gb118 hg w14 hbox hb;have n0_:=Kb BK117 hb;have n1_:=Kh HB hb;have n2_:=Ak (hbox);have n3_:=Ak ((by rw [hg];exact (below_size HB.out) : w.heap.size ≤ gb118));have n4_:=Ak ((by rw [hg];exact (below_size HB.out) : w.heap.size ≤ gb118));have n5_:=Ak ((by rw [hg];exact Nat.ne_of_lt (blk_lt (g:=gb117) (o:=.cells #[.int .u64 a0_0,.int .u64 a0_1,.int .u64 a0_2,.int .u64 a0_3] 79 (0,0)) BK117.out) : gb117 ≠ gb118));have n6_:=Ak ((by rw [hg];exact Nat.ne_of_gt (blk_lt (g:=gb117) (o:=.cells #[.int .u64 a0_0,.int .u64 a0_1,.int .u64 a0_2,.int .u64 a0_3] 79 (0,0)) BK117.out) : gb118 ≠ gb117));clear BK117;clear HB;have BK117:=n0_;have HB:=n1_;have BK118:=n2_;have GW118:=n3_;have GE118:=n4_;have NB117_118:=n5_;have NB118_117:=n6_;clear n0_ n1_ n2_ n3_ n4_ n5_ n6_;clear hb hbox hg;have hnb15:=NB117_118.out;have hnc15:=NB118_117.out;have hcz16_0 : w14.cell? ⟨gb117,0,none⟩ = some (.int .u64 a0_0):=(kC BK117.out 0).trans rfl;have hcz16_1 : w14.cell? ⟨gb117,1,none⟩ = some (.int .u64 a0_1):=(kC BK117.out 1).trans rfl;have hcz16_2 : w14.cell? ⟨gb117,2,none⟩ = some (.int .u64 a0_2):=(kC BK117.out 2).trans rfl;have hcz16_3 : w14.cell? ⟨gb117,3,none⟩ = some (.int .u64 a0_3):=(kC BK117.out 3).trans rfl;have hfz16_0:=blk_frozen BK117.out 0;have hfz16_1:=blk_frozen BK117.out 1;have hfz16_2:=blk_frozen BK117.out 2;have hfz16_3:=blk_frozen BK117.out 3;have hcz17_0 : w14.cell? ⟨gb118,0,none⟩ = some (.int .u64 a1_0):=(kC BK118.out 0).trans rfl;have hcz17_1 : w14.cell? ⟨gb118,1,none⟩ = some (.int .u64 a1_1):=(kC BK118.out 1).trans rfl;have hcz17_2 : w14.cell? ⟨gb118,2,none⟩ = some (.int .u64 a1_2):=(kC BK118.out 2).trans rfl;have hcz17_3 : w14.cell? ⟨gb118,3,none⟩ = some (.int .u64 a1_3):=(kC BK118.out 3).trans rfl;have hfz17_0:=blk_frozen BK118.out 0;have hfz17_1:=blk_frozen BK118.out 1;have hfz17_2:=blk_frozen BK118.out 2;have hfz17_3:=blk_frozen BK118.out 3)|((with_reducible refine gate_callee (f:=20) rfl ?_);refine goesL_ (some 10) rfl rfl Try.func20 (by kernel_rfl) rfl #[.agg #[.int .u64 a0_0,.int .u64 a0_1],.agg #[.int .u64 a1_0,.int .u64 a1_1]] rfl (by (try simp only [List.map_toArray,List.map_cons,List.map_nil]);first|done|rfl|(simp only [List.length_drop,List.length_take];rfl)) ?_;(with_reducible refine (wide_Cmp.calls a0_0 a0_1 a1_0 a1_1 t119 _ A3.out).mono ?_);rintro e w18 ⟨rfl,hb⟩;refine ⟨_,rfl,?_⟩;have n0_:=Kb BK117 hb;have n1_:=Kb BK118 hb;have n2_:=Kh HB hb;clear BK117;clear BK118;clear HB;have BK117:=n0_;have BK118:=n1_;have HB:=n2_;clear n0_ n1_ n2_;(try clear hb);(try clear hb2);(try clear hk);(try clear hi);have hcz19_0 : w18.cell? ⟨gb117,0,none⟩ = some (.int .u64 a0_0):=(kC BK117.out 0).trans rfl;have hcz19_1 : w18.cell? ⟨gb117,1,none⟩ = some (.int .u64 a0_1):=(kC BK117.out 1).trans rfl;have hcz19_2 : w18.cell? ⟨gb117,2,none⟩ = some (.int .u64 a0_2):=(kC BK117.out 2).trans rfl;have hcz19_3 : w18.cell? ⟨gb117,3,none⟩ = some (.int .u64 a0_3):=(kC BK117.out 3).trans rfl;have hfz19_0:=blk_frozen BK117.out 0;have hfz19_1:=blk_frozen BK117.out 1;have hfz19_2:=blk_frozen BK117.out 2;have hfz19_3:=blk_frozen BK117.out 3;have hcz20_0 : w18.cell? ⟨gb118,0,none⟩ = some (.int .u64 a1_0):=(kC BK118.out 0).trans rfl;have hcz20_1 : w18.cell? ⟨gb118,1,none⟩ = some (.int .u64 a1_1):=(kC BK118.out 1).trans rfl;have hcz20_2 : w18.cell? ⟨gb118,2,none⟩ = some (.int .u64 a1_2):=(kC BK118.out 2).trans rfl;have hcz20_3 : w18.cell? ⟨gb118,3,none⟩ = some (.int .u64 a1_3):=(kC BK118.out 3).trans rfl;have hfz20_0:=blk_frozen BK118.out 0;have hfz20_1:=blk_frozen BK118.out 1;have hfz20_2:=blk_frozen BK118.out 2;have hfz20_3:=blk_frozen BK118.out 3)|(go_at_call 20;(with_reducible refine (wide_Cmp.calls a0_2 a0_3 a1_2 a1_3 t120 _ A12.out).mono ?_);rintro e w21 ⟨rfl,hb⟩;have n0_:=Kb BK117 hb;have n1_:=Kb BK118 hb;have n2_:=Kh HB hb;clear BK117;clear BK118;clear HB;have BK117:=n0_;have BK118:=n1_;have HB:=n2_;clear n0_ n1_ n2_;(try clear hb);(try clear hb2);(try clear hk);(try clear hi)))
   go_ret
   exact ⟨by first|rfl|(simp [errW_none,errW_some] <;> rfl)|(simp [*,errW_none,errW_some] <;> rfl),by repeat (first|(with_reducible first|exact HB.out|apply bA|apply bN|apply bD|refine bS ?_ GE117.out|refine bS ?_ GE118.out)|exact HB.out)⟩
  ·rw [if_neg c11] at H
   have c11b0 : (t119 == 0) = false:=beq_eq_false_iff_ne.mpr c11
   have c11b1 : (t119 != 0) = true:=bne_iff_ne.mpr c11
   obtain rfl:=Option.some.inj H
   go_enter Try.func60,Try.ntmps60
   go_wp2_with (first|((with_reducible refine gate_dst (N:=2) rfl ?_);refine box_event ?hg (N:=2) ?hd (cs:=#[.int .u64 a0_0,.int .u64 a0_1,.int .u64 a0_2,.int .u64 a0_3]) (t:=79) ?hr ?_;(case hd => rfl);(case hg => rfl);(case hr => first|(go_simp;done)|(go_simp;rfl));intro gb117 hg w22 hbox hb;have n0_:=Kh HB hb;have n1_:=Ak (hbox);have n2_:=Ak ((by rw [hg];exact (below_size HB.out) : w.heap.size ≤ gb117));have n3_:=Ak ((by rw [hg];exact (below_size HB.out) : w.heap.size ≤ gb117));clear HB;have HB:=n0_;have BK117:=n1_;have GW117:=n2_;have GE117:=n3_;clear n0_ n1_ n2_ n3_;clear hb hbox hg)|((with_reducible refine gate_dst (N:=3) rfl ?_);refine box_event ?hg (N:=3) ?hd (cs:=#[.int .u64 a1_0,.int .u64 a1_1,.int .u64 a1_2,.int .u64 a1_3]) (t:=79) ?hr ?_;(case hd => rfl);(case hg => rfl);(case hr => first|(go_simp;done)|(go_simp;rfl));intro gb118 hg w23 hbox hb;have n0_:=Kb BK117 hb;have n1_:=Kh HB hb;have n2_:=Ak (hbox);have n3_:=Ak ((by rw [hg];exact (below_size HB.out) : w.heap.size ≤ gb118));have n4_:=Ak ((by rw [hg];exact (below_size HB.out) : w.heap.size ≤ gb118));have n5_:=Ak ((by rw [hg];exact Nat.ne_of_lt (blk_lt (g:=gb117) (o:=.cells #[.int .u64 a0_0,.int .u64 a0_1,.int .u64 a0_2,.int .u64 a0_3] 79 (0,0)) BK117.out) : gb117 ≠ gb118));have n6_:=Ak ((by rw [hg];exact Nat.ne_of_gt (blk_lt (g:=gb117) (o:=.cells #[.int .u64 a0_0,.int .u64 a0_1,.int .u64 a0_2,.int .u64 a0_3] 79 (0,0)) BK117.out) : gb118 ≠ gb117));clear BK117;clear HB;have BK117:=n0_;have HB:=n1_;have BK118:=n2_;have GW118:=n3_;have GE118:=n4_;have NB117_118:=n5_;have NB118_117:=n6_;clear n0_ n1_ n2_ n3_ n4_ n5_ n6_;clear hb hbox hg;have hnb24:=NB117_118.out;have hnc24:=NB118_117.out;have hcz25_0 : w23.cell? ⟨gb117,0,none⟩ = some (.int .u64 a0_0):=(kC BK117.out 0).trans rfl;have hcz25_1 : w23.cell? ⟨gb117,1,none⟩ = some (.int .u64 a0_1):=(kC BK117.out 1).trans rfl;have hcz25_2 : w23.cell? ⟨gb117,2,none⟩ = some (.int .u64 a0_2):=(kC BK117.out 2).trans rfl;have hcz25_3 : w23.cell? ⟨gb117,3,none⟩ = some (.int .u64 a0_3):=(kC BK117.out 3).trans rfl;have hfz25_0:=blk_frozen BK117.out 0;have hfz25_1:=blk_frozen BK117.out 1;have hfz25_2:=blk_frozen BK117.out 2;have hfz25_3:=blk_frozen BK117.out 3;have hcz26_0 : w23.cell? ⟨gb118,0,none⟩ = some (.int .u64 a1_0):=(kC BK118.out 0).trans rfl;have hcz26_1 : w23.cell? ⟨gb118,1,none⟩ = some (.int .u64 a1_1):=(kC BK118.out 1).trans rfl;have hcz26_2 : w23.cell? ⟨gb118,2,none⟩ = some (.int .u64 a1_2):=(kC BK118.out 2).trans rfl;have hcz26_3 : w23.cell? ⟨gb118,3,none⟩ = some (.int .u64 a1_3):=(kC BK118.out 3).trans rfl;have hfz26_0:=blk_frozen BK118.out 0;have hfz26_1:=blk_frozen BK118.out 1;have hfz26_2:=blk_frozen BK118.out 2;have hfz26_3:=blk_frozen BK118.out 3)|((with_reducible refine gate_callee (f:=20) rfl ?_);refine goesL_ (some 10) rfl rfl Try.func20 (by kernel_rfl) rfl #[.agg #[.int .u64 a0_0,.int .u64 a0_1],.agg #[.int .u64 a1_0,.int .u64 a1_1]] rfl (by (try simp only [List.map_toArray,List.map_cons,List.map_nil]);first|done|rfl|(simp only [List.length_drop,List.length_take];rfl)) ?_;(with_reducible refine (wide_Cmp.calls a0_0 a0_1 a1_0 a1_1 t119 _ A3.out).mono ?_);rintro e w27 ⟨rfl,hb⟩;refine ⟨_,rfl,?_⟩;have n0_:=Kb BK117 hb;have n1_:=Kb BK118 hb;have n2_:=Kh HB hb;clear BK117;clear BK118;clear HB;have BK117:=n0_;have BK118:=n1_;have HB:=n2_;clear n0_ n1_ n2_;(try clear hb);(try clear hb2);(try clear hk);(try clear hi)))
   go_ret
   exact ⟨by first|rfl|(simp [errW_none,errW_some] <;> rfl)|(simp [*,errW_none,errW_some] <;> rfl),by repeat (first|(with_reducible first|exact HB.out|apply bA|apply bN|apply bD|refine bS ?_ GE117.out|refine bS ?_ GE118.out)|exact HB.out)⟩
end Go.Proofs.Ythlhmijgbjcloaa.A
end
section
namespace Go.Proofs.Ythlhmijgbjcloaa.A
open Go.RowKit Go.Proofs.YthlhmijgbjcloaaW.PrintWords Go.Proofs.YthlhmijgbjcloaaW.PrintLast Go.Proofs.YthlhmijgbjcloaaW.PrintMore
attribute [local go_sem] max2_int min2_int max_two min_two max_three min_three max_four min_four   -- for this text's walks alone
def wide_Sub.f (a0_0 : Int) (a0_1 : Int) (a1_0 : Int) (a1_1 : Int) : Option (Int × Int × Bool):=subF a0_0 a0_1 a1_0 a1_1
theorem wide_Sub.calls (a0_0 : Int) (a0_1 : Int) (a1_0 : Int) (a1_1 : Int) (r1 : Int) (r2 : Int) (r3 : Bool) (w : World) (h : wide_Sub.f a0_0 a0_1 a1_0 a1_1 = some (r1,r2,r3)) :
  Calls Try.prog 29 #[.agg #[.int .u64 a0_0,.int .u64 a0_1],.agg #[.int .u64 a1_0,.int .u64 a1_1]] w fun e w' => e = .returned (.tuple #[.agg #[.int .u64 r1,.int .u64 r2],.bool r3])∧Below w.heap.size w w':=by
 unfold wide_Sub.f subF at h
 split at h
 ·rename_i hk
  simp only [Bool.and_eq_true] at hk
  obtain ⟨⟨⟨g0,g1⟩,g2⟩,g3⟩:=hk
  injection h with h
  injection h with h1 h
  injection h with h2 h3
  subst h1
  subst h2
  subst h3
  obtain ⟨m1,m2,m3⟩:=num_hl (isU_of g0) (isU_of g1)
  obtain ⟨n1,n2,n3⟩:=num_hl (isU_of g2) (isU_of g3)
  have:=sub_n (num a0_0 a0_1) (num a1_0 a1_1) w m1 n1
  unfold wd at this
  rw [m2,m3,n2,n3] at this
  exact this
 ·cases h
end Go.Proofs.Ythlhmijgbjcloaa.A
end
section
namespace Go.Proofs.Ythlhmijgbjcloaa.A
open Go.RowKit Go.Proofs.YthlhmijgbjcloaaW.PrintWords Go.Proofs.YthlhmijgbjcloaaW.PrintLast Go.Proofs.YthlhmijgbjcloaaW.PrintMore
attribute [local go_sem] max2_int min2_int max_two min_two max_three min_three max_four min_four   -- for this text's walks alone
def wide_Margin.f (a0_0 : Int) (a0_1 : Int) (a0_2 : Int) (a0_3 : Int) : Option (Int × Int):=marginF a0_0 a0_1 a0_2 a0_3
theorem wide_Margin.calls (a0_0 : Int) (a0_1 : Int) (a0_2 : Int) (a0_3 : Int) (r1 : Int) (r2 : Int) (w : World) (h : wide_Margin.f a0_0 a0_1 a0_2 a0_3 = some (r1,r2)) :
  Calls Try.prog 26 #[.agg #[.int .i64 a0_0,.int .i64 a0_1,.int .i64 a0_2,.int .i64 a0_3]] w fun e w' => e = .returned (.agg #[.int .u64 r1,.int .u64 r2])∧Below w.heap.size w w':=by
 unfold wide_Margin.f marginF at h
 split at h
 ·rename_i hk
  simp only [Bool.and_eq_true] at hk
  obtain ⟨⟨⟨g0,g1⟩,g2⟩,g3⟩:=hk
  injection h with h
  injection h with h1 h2
  subst h1
  subst h2
  exact margin_any a0_0 a0_1 a0_2 a0_3 w (width_isU (isI_of g0) (isI_of g1)) (width_isU (isI_of g2) (isI_of g3))
 ·cases h
end Go.Proofs.Ythlhmijgbjcloaa.A
end
section
namespace Go.Proofs.Ythlhmijgbjcloaa.A
open Go.RowKit Go.Proofs.YthlhmijgbjcloaaW.PrintWords Go.Proofs.YthlhmijgbjcloaaW.PrintLast Go.Proofs.YthlhmijgbjcloaaW.PrintMore
attribute [local go_sem] max2_int min2_int max_two min_two max_three min_three max_four min_four   -- for this text's walks alone
def key_of.f (a0_0 : Int) (a0_1 : Int) (a0_2 : Int) (a0_3 : Int) : Option (Int × Int × Int × Int):=(wide_Area.f a0_0 a0_1 a0_2 a0_3).bind fun bt124 => ((wide_Margin.f a0_0 a0_1 a0_2 a0_3).bind fun bt126 => (some (bt124.1,bt124.2,bt126.1,bt126.2)))
set_option maxHeartbeats 8000000 in
set_option maxRecDepth 100000 in
theorem key_of.calls (a0_0 : Int) (a0_1 : Int) (a0_2 : Int) (a0_3 : Int) (r1 : Int) (r2 : Int) (r3 : Int) (r4 : Int) (w : World) (h : key_of.f a0_0 a0_1 a0_2 a0_3 = some (r1,r2,r3,r4)) :
  Calls Try.prog 64 #[.agg #[.int .i64 a0_0,.int .i64 a0_1,.int .i64 a0_2,.int .i64 a0_3]] w fun e w' => e = .returned (.agg #[.int .u64 r1,.int .u64 r2,.int .u64 r3,.int .u64 r4])∧Below w.heap.size w w':=by
 have hu35:=Try.underlying35
 have hu79:=Try.underlying79
 have HB:=Aside0.mk (Below.refl w.heap.size w)
 have H : ((wide_Area.f a0_0 a0_1 a0_2 a0_3).bind fun bt124 => ((wide_Margin.f a0_0 a0_1 a0_2 a0_3).bind fun bt126 => (some (bt124.1,bt124.2,bt126.1,bt126.2)))) = some (r1,r2,r3,r4):=h
 clear h
 replace H:=Option.bind_eq_some_iff.mp H
 obtain ⟨⟨t124,t125⟩,A20,H⟩:=H
 replace H : ((wide_Margin.f a0_0 a0_1 a0_2 a0_3).bind fun bt126 => (some (t124,t125,bt126.1,bt126.2))) = some (r1,r2,r3,r4):=H
 have A2:=Aside0.mk A20
 clear A20
 replace H:=Option.bind_eq_some_iff.mp H
 obtain ⟨⟨t126,t127⟩,A30,H⟩:=H
 replace H : (some (t124,t125,t126,t127)) = some (r1,r2,r3,r4):=H
 have A3:=Aside0.mk A30
 clear A30
 simp only [Option.some.injEq,Prod.mk.injEq] at H
 obtain ⟨rfl,rfl,rfl,rfl⟩:=H
 go_enter Try.func64,Try.ntmps64
 try go_wp2_with (first|((with_reducible refine gate_dst (N:=1) rfl ?_);refine box_event ?hg (N:=1) ?hd (cs:=#[.int .i64 a0_0,.int .i64 a0_1,.int .i64 a0_2,.int .i64 a0_3]) (t:=35) ?hr ?_;(case hd => rfl);(case hg => rfl);(case hr => first|(go_simp;done)|(go_simp;rfl));intro gb122 hg w4 hbox hb;have n0_:=Aside0.mk (below_step (by repeat (first|(with_reducible first|exact HB.out|apply below_alloc|apply pw_below_drewN|apply below_drew1)|exact HB.out)) hb);have n1_:=Aside0.mk (hbox);have n2_:=Aside0.mk ((by rw [hg];exact (below_size (by repeat (first|(with_reducible first|exact HB.out|apply below_alloc|apply pw_below_drewN|apply below_drew1)|exact HB.out))) : w.heap.size ≤ gb122));have n3_:=Aside0.mk ((by rw [hg];exact (below_size (by repeat (first|(with_reducible first|exact HB.out|apply below_alloc|apply pw_below_drewN|apply below_drew1)|exact HB.out))) : w.heap.size ≤ gb122));clear HB;have HB:=n0_;have BK122:=n1_;have GW122:=n2_;have GE122:=n3_;clear n0_ n1_ n2_ n3_;clear hb hbox hg)|((with_reducible refine gate_dst (N:=2) rfl ?_);refine box_event ?hg (N:=2) ?hd (cs:=#[.int .u64 0,.int .u64 0,.int .u64 0,.int .u64 0]) (t:=79) ?hr ?_;(case hd => rfl);(case hg => rfl);(case hr => first|(go_simp;done)|(go_simp;rfl));intro gb123 hg w5 hbox hb;have n0_:=Aside0.mk (blk_below (g:=gb122) (o:=.cells #[.int .i64 a0_0,.int .i64 a0_1,.int .i64 a0_2,.int .i64 a0_3] 35 (0,0)) (by (with_reducible repeat (first|refine blk_drewN ?_ _|refine blk_drew ?_|refine blk_alloc ?_ _));exact BK122.out) hb);have n1_:=Aside0.mk (below_step (by repeat (first|(with_reducible first|exact HB.out|apply below_alloc|apply pw_below_drewN|apply below_drew1|refine below_set ?_ GE122.out)|exact HB.out)) hb);have n2_:=Aside0.mk (hbox);have n3_:=Aside0.mk ((by rw [hg];exact (below_size (by repeat (first|(with_reducible first|exact HB.out|apply below_alloc|apply pw_below_drewN|apply below_drew1|refine below_set ?_ GE122.out)|exact HB.out))) : w.heap.size ≤ gb123));have n4_:=Aside0.mk ((by rw [hg];exact (below_size (by repeat (first|(with_reducible first|exact HB.out|apply below_alloc|apply pw_below_drewN|apply below_drew1|refine below_set ?_ GE122.out)|exact HB.out))) : w.heap.size ≤ gb123));have n5_:=Aside0.mk ((by rw [hg];exact Nat.ne_of_lt (blk_lt (g:=gb122) (o:=.cells #[.int .i64 a0_0,.int .i64 a0_1,.int .i64 a0_2,.int .i64 a0_3] 35 (0,0)) (by (with_reducible repeat (first|refine blk_drewN ?_ _|refine blk_drew ?_|refine blk_alloc ?_ _));exact BK122.out)) : gb122 ≠ gb123));have n6_:=Aside0.mk ((by rw [hg];exact Nat.ne_of_gt (blk_lt (g:=gb122) (o:=.cells #[.int .i64 a0_0,.int .i64 a0_1,.int .i64 a0_2,.int .i64 a0_3] 35 (0,0)) (by (with_reducible repeat (first|refine blk_drewN ?_ _|refine blk_drew ?_|refine blk_alloc ?_ _));exact BK122.out)) : gb123 ≠ gb122));clear BK122;clear HB;have BK122:=n0_;have HB:=n1_;have BK123:=n2_;have GW123:=n3_;have GE123:=n4_;have NB122_123:=n5_;have NB123_122:=n6_;clear n0_ n1_ n2_ n3_ n4_ n5_ n6_;clear hb hbox hg))
 have n0_:=Aside0.mk (blk_drew BK122.out)
 have n1_:=Aside0.mk (blk_drew BK123.out)
 have n2_:=Aside0.mk (below_drew1 HB.out)
 clear BK122
 clear BK123
 clear HB
 have BK122:=n0_
 have BK123:=n1_
 have HB:=n2_
 clear n0_ n1_ n2_
 refine start_ (n:=6) (S:=fun w' => w'.cell? ⟨gb122,0,none⟩ = some (.int .i64 a0_0)∧w'.cell? ⟨gb122,1,none⟩ = some (.int .i64 a0_1)∧w'.cell? ⟨gb122,2,none⟩ = some (.int .i64 a0_2)∧w'.cell? ⟨gb122,3,none⟩ = some (.int .i64 a0_3)) (ds:=[]) #[false,false,false,false,false,false] (by kernel_rfl) rfl rfl ⟨(blk_cell BK122.out 0).trans rfl,(blk_cell BK122.out 1).trans rfl,(blk_cell BK122.out 2).trans rfl,(blk_cell BK122.out 3).trans rfl⟩ (fun hHeld => ?_)
 generalize w5.drew = w6 at BK122 BK123 HB hHeld ⊢
 refine take_ (i:=0) (N:=some 3) (v:=?_) (a':=?_) #[true,false,false,false,false,false] rfl rfl (by kernel_rfl) (fun _ _ _ h => h) (Or.inl ⟨by rfl,?_⟩) hHeld ?_ ?_
 rotate_left
 ·rintro w' ⟨s0,s1,s2,s3⟩
  go_simp
  with_reducible rfl
 rotate_left
 ·simp only [Act.put,List.setIfInBounds_toArray,List.set_cons_zero,List.set_cons_succ,i64_w,i32_w]
  rfl
 refine take_ (i:=2) (N:=some 5) (v:=?_) (a':=?_) #[true,false,true,false,false,false] rfl rfl (by kernel_rfl) (fun _ _ _ h => h) (Or.inl ⟨by rfl,?_⟩) hHeld ?_ ?_
 rotate_left
 ·rintro w' ⟨s0,s1,s2,s3⟩
  go_simp
  with_reducible rfl
 rotate_left
 ·simp only [Act.put,List.setIfInBounds_toArray,List.set_cons_zero,List.set_cons_succ,i64_w,i32_w]
  rfl
 refine one_ (i:=1) (N:=some 4) #[true,true,true,false,false,false] rfl rfl (by kernel_rfl) (by decide) (fun K hK => ?_)
 refine goes_ Try.func24 (by kernel_rfl) rfl #[.agg #[.int .i64 a0_0,.int .i64 a0_1,.int .i64 a0_2,.int .i64 a0_3]] (by rfl) rfl rfl (by (try simp only [List.map_toArray,List.map_cons,List.map_nil]);first|done|rfl|(simp only [List.length_drop,List.length_take];rfl)) ?_
 with_reducible refine (wide_Area.calls a0_0 a0_1 a0_2 a0_3 t124 t125 _ A2.out).mono ?_
 rintro e w7 ⟨rfl,hb⟩
 refine ⟨_,rfl,?_⟩
 have n0_:=Aside0.mk (blk_below (g:=gb122) (o:=.cells #[.int .i64 a0_0,.int .i64 a0_1,.int .i64 a0_2,.int .i64 a0_3] 35 (0,0)) (by (with_reducible repeat (first|refine blk_drewN ?_ _|refine blk_drew ?_|refine blk_alloc ?_ _));exact BK122.out) hb)
 have n1_:=Aside0.mk (blk_below (g:=gb123) (o:=.cells #[.int .u64 0,.int .u64 0,.int .u64 0,.int .u64 0] 79 (0,0)) (by (with_reducible repeat (first|refine blk_drewN ?_ _|refine blk_drew ?_|refine blk_alloc ?_ _));exact BK123.out) hb)
 have n2_:=Aside0.mk (below_step (by repeat (first|(with_reducible first|exact HB.out|apply below_alloc|apply pw_below_drewN|apply below_drew1|refine below_set ?_ GE122.out|refine below_set ?_ GE123.out)|exact HB.out)) hb)
 clear BK122
 clear BK123
 clear HB
 have BK122:=n0_
 have BK123:=n1_
 have HB:=n2_
 clear n0_ n1_ n2_
 (try clear hb)
 (try clear hb2)
 (try clear hk)
 (try clear hi)
 refine hK.out _ _ ⟨(blk_cell BK122.out 0).trans rfl,(blk_cell BK122.out 1).trans rfl,(blk_cell BK122.out 2).trans rfl,(blk_cell BK122.out 3).trans rfl⟩ (fun hHeld => ?_)
 clear hK K
 refine norm_ (a':=?_) ?_ ?_
 rotate_left
 ·show Act.put _ (some 4) _ = _
  simp only [Act.put,List.setIfInBounds_toArray,List.set_cons_zero,List.set_cons_succ,i64_w,i32_w]
  rfl
 refine one_ (i:=3) (N:=some 6) #[true,true,true,true,false,false] rfl rfl (by kernel_rfl) (by decide) (fun K hK => ?_)
 refine goes_ Try.func26 (by kernel_rfl) rfl #[.agg #[.int .i64 a0_0,.int .i64 a0_1,.int .i64 a0_2,.int .i64 a0_3]] (by rfl) rfl rfl (by (try simp only [List.map_toArray,List.map_cons,List.map_nil]);first|done|rfl|(simp only [List.length_drop,List.length_take];rfl)) ?_
 with_reducible refine (wide_Margin.calls a0_0 a0_1 a0_2 a0_3 t126 t127 _ A3.out).mono ?_
 rintro e w8 ⟨rfl,hb⟩
 refine ⟨_,rfl,?_⟩
 have n0_:=Aside0.mk (blk_below (g:=gb122) (o:=.cells #[.int .i64 a0_0,.int .i64 a0_1,.int .i64 a0_2,.int .i64 a0_3] 35 (0,0)) (by (with_reducible repeat (first|refine blk_drewN ?_ _|refine blk_drew ?_|refine blk_alloc ?_ _));exact BK122.out) hb)
 have n1_:=Aside0.mk (blk_below (g:=gb123) (o:=.cells #[.int .u64 0,.int .u64 0,.int .u64 0,.int .u64 0] 79 (0,0)) (by (with_reducible repeat (first|refine blk_drewN ?_ _|refine blk_drew ?_|refine blk_alloc ?_ _));exact BK123.out) hb)
 have n2_:=Aside0.mk (below_step (by repeat (first|(with_reducible first|exact HB.out|apply below_alloc|apply pw_below_drewN|apply below_drew1|refine below_set ?_ GE122.out|refine below_set ?_ GE123.out)|exact HB.out)) hb)
 clear BK122
 clear BK123
 clear HB
 have BK122:=n0_
 have BK123:=n1_
 have HB:=n2_
 clear n0_ n1_ n2_
 (try clear hb)
 (try clear hb2)
 (try clear hk)
 (try clear hi)
 refine hK.out _ _ ⟨(blk_cell BK122.out 0).trans rfl,(blk_cell BK122.out 1).trans rfl,(blk_cell BK122.out 2).trans rfl,(blk_cell BK122.out 3).trans rfl⟩ (fun hHeld => ?_)
 clear hK K
 refine norm_ (a':=?_) ?_ ?_
 rotate_left
 ·show Act.put _ (some 6) _ = _
  simp only [Act.put,List.setIfInBounds_toArray,List.set_cons_zero,List.set_cons_succ,i64_w,i32_w]
  rfl
 refine pure_ (i:=4) (N:=some 7) (v:=?_) (a':=?_) #[true,true,true,true,true,false] rfl rfl (by kernel_rfl) (fun _ _ _ h => h) (Or.inl ⟨by rfl,?_⟩) ?_ ?_
 rotate_left
 ·intro w'
  go_simp
  with_reducible rfl
 rotate_left
 ·simp only [Act.put,List.setIfInBounds_toArray,List.set_cons_zero,List.set_cons_succ,i64_w,i32_w]
  rfl
 refine one_ (i:=5) (N:=none) #[true,true,true,true,true,true] rfl rfl (by kernel_rfl) (by decide) (fun K hK => ?_)
 have hs9 : w8.cell? ⟨gb123,0,none⟩ = some (.int .u64 0):=(blk_cell BK123.out 0).trans rfl
 have hfs9:=blk_frozen BK123.out 0
 have hns9_0:=NB122_123.out
 have hms9_0:=NB123_122.out
 have hs10 : w8.cell? ⟨gb123,1,none⟩ = some (.int .u64 0):=(blk_cell BK123.out 1).trans rfl
 have hfs10:=blk_frozen BK123.out 1
 have hns10_0:=NB122_123.out
 have hms10_0:=NB123_122.out
 have hs11 : w8.cell? ⟨gb123,2,none⟩ = some (.int .u64 0):=(blk_cell BK123.out 2).trans rfl
 have hfs11:=blk_frozen BK123.out 2
 have hns11_0:=NB122_123.out
 have hms11_0:=NB123_122.out
 have hs12 : w8.cell? ⟨gb123,3,none⟩ = some (.int .u64 0):=(blk_cell BK123.out 3).trans rfl
 have hfs12:=blk_frozen BK123.out 3
 have hns12_0:=NB122_123.out
 have hms12_0:=NB123_122.out
 refine skip_ (w1:=?_) (by rfl) rfl ?_ ?_
 rotate_left
 ·go_simp
  rfl
 refine hK.out _ _ ⟨((cell_far (p:=⟨gb123,_,none⟩) NB122_123.out _).trans (((cell_far (p:=⟨gb123,_,none⟩) NB122_123.out _).trans (((cell_far (p:=⟨gb123,_,none⟩) NB122_123.out _).trans (((cell_far (p:=⟨gb123,_,none⟩) NB122_123.out _).trans (hHeld.1)))))))),((cell_far (p:=⟨gb123,_,none⟩) NB122_123.out _).trans (((cell_far (p:=⟨gb123,_,none⟩) NB122_123.out _).trans (((cell_far (p:=⟨gb123,_,none⟩) NB122_123.out _).trans (((cell_far (p:=⟨gb123,_,none⟩) NB122_123.out _).trans (hHeld.2.1)))))))),((cell_far (p:=⟨gb123,_,none⟩) NB122_123.out _).trans (((cell_far (p:=⟨gb123,_,none⟩) NB122_123.out _).trans (((cell_far (p:=⟨gb123,_,none⟩) NB122_123.out _).trans (((cell_far (p:=⟨gb123,_,none⟩) NB122_123.out _).trans (hHeld.2.2.1)))))))),((cell_far (p:=⟨gb123,_,none⟩) NB122_123.out _).trans (((cell_far (p:=⟨gb123,_,none⟩) NB122_123.out _).trans (((cell_far (p:=⟨gb123,_,none⟩) NB122_123.out _).trans (((cell_far (p:=⟨gb123,_,none⟩) NB122_123.out _).trans (hHeld.2.2.2))))))))⟩ (fun hHeld => ?_)
 clear hK K
 refine done_ (by kernel_rfl) ?_
 try go_wp2
 refine bodyPost_ret (results_cell_row rfl _ _ gb123 79 #[.int .u64 t124,.int .u64 t125,.int .u64 t126,.int .u64 t127] (0,0) _ rfl (by (with_reducible repeat (first|refine blk_drewN ?_ _|refine blk_drew ?_|refine blk_alloc ?_ _));refine blk_put (cs:=#[.int .u64 t124,.int .u64 t125,.int .u64 t126,.int .u64 0]) ?_ 3 _ rfl;(with_reducible repeat (first|refine blk_drewN ?_ _|refine blk_drew ?_|refine blk_alloc ?_ _));refine blk_put (cs:=#[.int .u64 t124,.int .u64 t125,.int .u64 0,.int .u64 0]) ?_ 2 _ rfl;(with_reducible repeat (first|refine blk_drewN ?_ _|refine blk_drew ?_|refine blk_alloc ?_ _));refine blk_put (cs:=#[.int .u64 t124,.int .u64 0,.int .u64 0,.int .u64 0]) ?_ 1 _ rfl;(with_reducible repeat (first|refine blk_drewN ?_ _|refine blk_drew ?_|refine blk_alloc ?_ _));refine blk_put (cs:=#[.int .u64 0,.int .u64 0,.int .u64 0,.int .u64 0]) ?_ 0 _ rfl;(with_reducible repeat (first|refine blk_drewN ?_ _|refine blk_drew ?_|refine blk_alloc ?_ _));exact BK123.out) Try.underlying79 rfl (by kernel_rfl)) rfl ?_
 exact ⟨by first|rfl|(simp [errW_none,errW_some] <;> rfl)|(simp [*,errW_none,errW_some] <;> rfl),by repeat (first|(with_reducible first|exact HB.out|apply below_alloc|apply pw_below_drewN|apply below_drew1|refine below_set ?_ GE122.out|refine below_set ?_ GE123.out)|exact HB.out)⟩
end Go.Proofs.Ythlhmijgbjcloaa.A
end
section
namespace Go.Proofs.Ythlhmijgbjcloaa.A
open Go.RowKit Go.Proofs.YthlhmijgbjcloaaW.PrintWords Go.Proofs.YthlhmijgbjcloaaW.PrintLast Go.Proofs.YthlhmijgbjcloaaW.PrintMore
attribute [local go_sem] max2_int min2_int max_two min_two max_three min_three max_four min_four   -- for this text's walks alone
def key_grows.f (a0_0 : Int) (a0_1 : Int) (a0_2 : Int) (a0_3 : Int) (a1_0 : Int) (a1_1 : Int) (a1_2 : Int) (a1_3 : Int) : Option (Int × Int × Int × Int) := (key_Union.f a0_0 a0_1 a0_2 a0_3 a1_0 a1_1 a1_2 a1_3).bind fun bt210 => ((key_of.f bt210.1 bt210.2.1 bt210.2.2.1 bt210.2.2.2).bind fun bt214 => ((key_of.f a0_0 a0_1 a0_2 a0_3).bind fun bt218 => ((wide_Sub.f bt214.1 bt214.2.1 bt218.1 bt218.2.1).bind fun bt225 => ((wide_Sub.f bt214.2.2.1 bt214.2.2.2 bt218.2.2.1 bt218.2.2.2).bind fun bt228 => (some (bt225.1, bt225.2.1, bt228.1, bt228.2.1))))))
def key_grows.T1 : Bool × List (List Nat × List Nat) := (true, [([], []), ([], []), ([0, 1], [0, 1]), ([2, 2], [2]), ([], []), ([4, 3], [4]), ([], []), ([], []), ([6, 3, 5, 0, 1, 2, 3, 6, 7], [3, 6]), ([7, 5, 8, 0, 1, 2, 3, 4, 5, 6, 7, 8], [5, 7])])
def key_grows.B1 : List Nat := [0, 0, 3, 7, 0, 31, 0, 0, 255, 511]
theorem key_grows.tab1 : rtab .any (opsOf Try.f58 1) = key_grows.T1 := by kernel_rfl
theorem key_grows.bits1 : waitsOk key_grows.T1.2 key_grows.B1 = true := by kernel_rfl
set_option maxHeartbeats 8000000 in
set_option maxRecDepth 100000 in
theorem key_grows.calls (a0_0 : Int) (a0_1 : Int) (a0_2 : Int) (a0_3 : Int) (a1_0 : Int) (a1_1 : Int) (a1_2 : Int) (a1_3 : Int) (r1 : Int) (r2 : Int) (r3 : Int) (r4 : Int) (w : World) (h : key_grows.f a0_0 a0_1 a0_2 a0_3 a1_0 a1_1 a1_2 a1_3 = some (r1,r2,r3,r4)) :
  Calls Try.prog 58 #[.agg #[.int .i64 a0_0,.int .i64 a0_1,.int .i64 a0_2,.int .i64 a0_3],.agg #[.int .i64 a1_0,.int .i64 a1_1,.int .i64 a1_2,.int .i64 a1_3]] w fun e w' => e = .returned (.agg #[.int .u64 r1,.int .u64 r2,.int .u64 r3,.int .u64 r4])∧Below w.heap.size w w':=by
 have hu35:=Try.underlying35
 have hu79:=Try.underlying79
 have hu25:=Try.underlying25
 have HB:=Ak (Below.refl w.heap.size w)
 have H : ((key_Union.f a0_0 a0_1 a0_2 a0_3 a1_0 a1_1 a1_2 a1_3).bind fun bt210 => ((key_of.f bt210.1 bt210.2.1 bt210.2.2.1 bt210.2.2.2).bind fun bt214 => ((key_of.f a0_0 a0_1 a0_2 a0_3).bind fun bt218 => ((wide_Sub.f bt214.1 bt214.2.1 bt218.1 bt218.2.1).bind fun bt225 => ((wide_Sub.f bt214.2.2.1 bt214.2.2.2 bt218.2.2.1 bt218.2.2.2).bind fun bt228 => (some (bt225.1,bt225.2.1,bt228.1,bt228.2.1))))))) = some (r1,r2,r3,r4):=h
 clear h
 replace H:=Option.bind_eq_some_iff.mp H
 obtain ⟨⟨t210,t211,t212,t213⟩,A30,H⟩:=H
 replace H : ((key_of.f t210 t211 t212 t213).bind fun bt214 => ((key_of.f a0_0 a0_1 a0_2 a0_3).bind fun bt218 => ((wide_Sub.f bt214.1 bt214.2.1 bt218.1 bt218.2.1).bind fun bt225 => ((wide_Sub.f bt214.2.2.1 bt214.2.2.2 bt218.2.2.1 bt218.2.2.2).bind fun bt228 => (some (bt225.1,bt225.2.1,bt228.1,bt228.2.1)))))) = some (r1,r2,r3,r4):=H
 have A3:=Ak A30
 clear A30
 replace H:=Option.bind_eq_some_iff.mp H
 obtain ⟨⟨t214,t215,t216,t217⟩,A40,H⟩:=H
 replace H : ((key_of.f a0_0 a0_1 a0_2 a0_3).bind fun bt218 => ((wide_Sub.f t214 t215 bt218.1 bt218.2.1).bind fun bt225 => ((wide_Sub.f t216 t217 bt218.2.2.1 bt218.2.2.2).bind fun bt228 => (some (bt225.1,bt225.2.1,bt228.1,bt228.2.1))))) = some (r1,r2,r3,r4):=H
 have A4:=Ak A40
 clear A40
 replace H:=Option.bind_eq_some_iff.mp H
 obtain ⟨⟨t218,t219,t220,t221⟩,A50,H⟩:=H
 replace H : ((wide_Sub.f t214 t215 t218 t219).bind fun bt225 => ((wide_Sub.f t216 t217 t220 t221).bind fun bt228 => (some (bt225.1,bt225.2.1,bt228.1,bt228.2.1)))) = some (r1,r2,r3,r4):=H
 have A5:=Ak A50
 clear A50
 replace H:=Option.bind_eq_some_iff.mp H
 obtain ⟨⟨t225,t226,t227⟩,A60,H⟩:=H
 replace H : ((wide_Sub.f t216 t217 t220 t221).bind fun bt228 => (some (t225,t226,bt228.1,bt228.2.1))) = some (r1,r2,r3,r4):=H
 have A6:=Ak A60
 clear A60
 replace H:=Option.bind_eq_some_iff.mp H
 obtain ⟨⟨t228,t229,t230⟩,A70,H⟩:=H
 replace H : (some (t225,t226,t228,t229)) = some (r1,r2,r3,r4):=H
 have A7:=Ak A70
 clear A70
 simp only [Option.some.injEq,Prod.mk.injEq] at H
 obtain ⟨rfl,rfl,rfl,rfl⟩:=H
 go_enter Try.func58,Try.ntmps58
 try go_wp2_with (first|((with_reducible refine gate_dst (N:=2) rfl ?_);refine box_event ?hg (N:=2) ?hd (cs:=#[.int .i64 a0_0,.int .i64 a0_1,.int .i64 a0_2,.int .i64 a0_3]) (t:=35) ?hr ?_;(case hd => rfl);(case hg => rfl);(case hr => first|(go_simp;done)|(go_simp;rfl));intro gb207 hg w8 hbox hb;have n0_:=Ak (below_step (by repeat (first|(with_reducible first|exact HB.out|apply bA|apply bN|apply bD)|exact HB.out)) hb);have n1_:=Ak (hbox);have n2_:=Ak ((by rw [hg];exact (below_size (by repeat (first|(with_reducible first|exact HB.out|apply bA|apply bN|apply bD)|exact HB.out))) : w.heap.size ≤ gb207));have n3_:=Ak ((by rw [hg];exact (below_size (by repeat (first|(with_reducible first|exact HB.out|apply bA|apply bN|apply bD)|exact HB.out))) : w.heap.size ≤ gb207));clear HB;have HB:=n0_;have BK207:=n1_;have GW207:=n2_;have GE207:=n3_;clear n0_ n1_ n2_ n3_;clear hb hbox hg)|((with_reducible refine gate_dst (N:=3) rfl ?_);refine box_event ?hg (N:=3) ?hd (cs:=#[.int .i64 a1_0,.int .i64 a1_1,.int .i64 a1_2,.int .i64 a1_3]) (t:=35) ?hr ?_;(case hd => rfl);(case hg => rfl);(case hr => first|(go_simp;done)|(go_simp;rfl));intro gb208 hg w9 hbox hb;have n0_:=Kb BK207 hb;have n1_:=Ak (below_step (by repeat (first|(with_reducible first|exact HB.out|apply bA|apply bN|apply bD|refine bS ?_ GE207.out)|exact HB.out)) hb);have n2_:=Ak (hbox);have n3_:=Ak ((by rw [hg];exact (below_size (by repeat (first|(with_reducible first|exact HB.out|apply bA|apply bN|apply bD|refine bS ?_ GE207.out)|exact HB.out))) : w.heap.size ≤ gb208));have n4_:=Ak ((by rw [hg];exact (below_size (by repeat (first|(with_reducible first|exact HB.out|apply bA|apply bN|apply bD|refine bS ?_ GE207.out)|exact HB.out))) : w.heap.size ≤ gb208));have n5_:=Kl hg BK207;have n6_:=Km hg BK207;clear BK207 HB;have BK207:=n0_;have HB:=n1_;have BK208:=n2_;have GW208:=n3_;have GE208:=n4_;have NB207_208:=n5_;have NB208_207:=n6_;clear n0_ n1_ n2_ n3_ n4_ n5_ n6_;clear hb hbox hg)|((with_reducible refine gate_dst (N:=4) rfl ?_);refine box_event ?hg (N:=4) ?hd (cs:=#[.int .u64 0,.int .u64 0,.int .u64 0,.int .u64 0]) (t:=79) ?hr ?_;(case hd => rfl);(case hg => rfl);(case hr => first|(go_simp;done)|(go_simp;rfl));intro gb209 hg w10 hbox hb;have n0_:=Kb BK207 hb;have n1_:=Kb BK208 hb;have n2_:=Ak (below_step (by repeat (first|(with_reducible first|exact HB.out|apply bA|apply bN|apply bD|refine bS ?_ GE207.out|refine bS ?_ GE208.out)|exact HB.out)) hb);have n3_:=Ak (hbox);have n4_:=Ak ((by rw [hg];exact (below_size (by repeat (first|(with_reducible first|exact HB.out|apply bA|apply bN|apply bD|refine bS ?_ GE207.out|refine bS ?_ GE208.out)|exact HB.out))) : w.heap.size ≤ gb209));have n5_:=Ak ((by rw [hg];exact (below_size (by repeat (first|(with_reducible first|exact HB.out|apply bA|apply bN|apply bD|refine bS ?_ GE207.out|refine bS ?_ GE208.out)|exact HB.out))) : w.heap.size ≤ gb209));have n6_:=Kl hg BK207;have n7_:=Km hg BK207;have n8_:=Kl hg BK208;have n9_:=Km hg BK208;clear BK207 BK208 HB;have BK207:=n0_;have BK208:=n1_;have HB:=n2_;have BK209:=n3_;have GW209:=n4_;have GE209:=n5_;have NB207_209:=n6_;have NB209_207:=n7_;have NB208_209:=n8_;have NB209_208:=n9_;clear n0_ n1_ n2_ n3_ n4_ n5_ n6_ n7_ n8_ n9_;clear hb hbox hg))
 have n0_:=Ak (kD BK207.out)
 have n1_:=Ak (kD BK208.out)
 have n2_:=Ak (kD BK209.out)
 have n3_:=Ak (bD HB.out)
 clear BK207 BK208 BK209 HB
 have BK207:=n0_;have BK208:=n1_;have BK209:=n2_;have HB:=n3_
 clear n0_ n1_ n2_ n3_
 refine start_ (n:=10) (S:=fun w' => w'.cell? ⟨gb207,0,none⟩ = some (.int .i64 a0_0)∧w'.cell? ⟨gb207,1,none⟩ = some (.int .i64 a0_1)∧w'.cell? ⟨gb207,2,none⟩ = some (.int .i64 a0_2)∧w'.cell? ⟨gb207,3,none⟩ = some (.int .i64 a0_3)∧w'.cell? ⟨gb208,0,none⟩ = some (.int .i64 a1_0)∧w'.cell? ⟨gb208,1,none⟩ = some (.int .i64 a1_1)∧w'.cell? ⟨gb208,2,none⟩ = some (.int .i64 a1_2)∧w'.cell? ⟨gb208,3,none⟩ = some (.int .i64 a1_3)) (ds:=[]) #[ff,ff,ff,ff,ff,ff,ff,ff,ff,ff] (by kernel_rfl) rfl rfl ⟨(kC BK207.out 0).trans rfl,(kC BK207.out 1).trans rfl,(kC BK207.out 2).trans rfl,(kC BK207.out 3).trans rfl,(kC BK208.out 0).trans rfl,(kC BK208.out 1).trans rfl,(kC BK208.out 2).trans rfl,(kC BK208.out 3).trans rfl⟩ (fun hHeld => ?_);refine with_tabW key_grows.tab1 key_grows.bits1 (fun HT_ HW_ => ?_)
 generalize w10.drew = w11 at BK207 BK208 BK209 HB hHeld ⊢
 refine take_ (i:=0) (N:=some 8) (v:=?_) (a':=?_) #[tt,ff,ff,ff,ff,ff,ff,ff,ff,ff] rfl rfl (take_ofW HT_.out HW_.out (by kernel_rfl)) (fun _ _ _ h => h) (Or.inl ⟨by rfl,?_⟩) hHeld ?_ ?_
 rotate_left
 ·rintro w' ⟨s0,s1,s2,s3,s4,s5,s6,s7⟩
  go_simp
  with_reducible rfl
 rotate_left
 ·simp only [Act.put,sA,sZ,sS,i64_w,i32_w]
  rfl
 refine take_ (i:=1) (N:=some 9) (v:=?_) (a':=?_) #[tt,tt,ff,ff,ff,ff,ff,ff,ff,ff] rfl rfl (take_ofW HT_.out HW_.out (by kernel_rfl)) (fun _ _ _ h => h) (Or.inl ⟨by rfl,?_⟩) hHeld ?_ ?_
 rotate_left
 ·rintro w' ⟨s0,s1,s2,s3,s4,s5,s6,s7⟩
  go_simp
  with_reducible rfl
 rotate_left
 ·simp only [Act.put,sA,sZ,sS,i64_w,i32_w]
  rfl
 refine take_ (i:=4) (N:=some 12) (v:=?_) (a':=?_) #[tt,tt,ff,ff,tt,ff,ff,ff,ff,ff] rfl rfl (take_ofW HT_.out HW_.out (by kernel_rfl)) (fun _ _ _ h => h) (Or.inl ⟨by rfl,?_⟩) hHeld ?_ ?_
 rotate_left
 ·rintro w' ⟨s0,s1,s2,s3,s4,s5,s6,s7⟩
  go_simp
  with_reducible rfl
 rotate_left
 ·simp only [Act.put,sA,sZ,sS,i64_w,i32_w]
  rfl
 refine join_ (σ:=Nat × Nat) 2 #[tt,tt,tt,tt,tt,tt,tt,tt,ff,ff] (fun s_ => [(10,.agg #[.int .i64 t210,.int .i64 t211,.int .i64 t212,.int .i64 t213]),(11,.agg #[.int .u64 t214,.int .u64 t215,.int .u64 t216,.int .u64 t217]),(13,.agg #[.int .u64 t218,.int .u64 t219,.int .u64 t220,.int .u64 t221]),(5,.pointer (some ⟨s_.1,0,none⟩)),(6,.pointer (some ⟨s_.2,0,none⟩))]) (fun s_ w' => (w'.cell? ⟨gb207,0,none⟩ = some (.int .i64 a0_0)∧w'.cell? ⟨gb207,1,none⟩ = some (.int .i64 a0_1)∧w'.cell? ⟨gb207,2,none⟩ = some (.int .i64 a0_2)∧w'.cell? ⟨gb207,3,none⟩ = some (.int .i64 a0_3)∧w'.cell? ⟨gb208,0,none⟩ = some (.int .i64 a1_0)∧w'.cell? ⟨gb208,1,none⟩ = some (.int .i64 a1_1)∧w'.cell? ⟨gb208,2,none⟩ = some (.int .i64 a1_2)∧w'.cell? ⟨gb208,3,none⟩ = some (.int .i64 a1_3))∧(w'.heap[gb207]? = some (.cells #[.int .i64 a0_0,.int .i64 a0_1,.int .i64 a0_2,.int .i64 a0_3] 35 (0,0)))∧(w'.heap[gb208]? = some (.cells #[.int .i64 a1_0,.int .i64 a1_1,.int .i64 a1_2,.int .i64 a1_3] 35 (0,0)))∧(w'.heap[gb209]? = some (.cells #[.int .u64 0,.int .u64 0,.int .u64 0,.int .u64 0] 79 (0,0)))∧(w'.heap[s_.1]? = some (.cells #[.int .u64 0,.int .u64 0,.int .u64 0,.int .u64 0] 79 (0,0)))∧(w'.heap[s_.2]? = some (.cells #[.int .u64 0,.int .u64 0,.int .u64 0,.int .u64 0] 79 (0,0)))∧(w.heap.size ≤ s_.1)∧(w.heap.size ≤ s_.1)∧(gb207 ≠ s_.1)∧(s_.1 ≠ gb207)∧(gb208 ≠ s_.1)∧(s_.1 ≠ gb208)∧(gb209 ≠ s_.1)∧(s_.1 ≠ gb209)∧(s_.2 ≠ s_.1)∧(s_.1 ≠ s_.2)∧(w.heap.size ≤ s_.2)∧(w.heap.size ≤ s_.2)∧(gb207 ≠ s_.2)∧(s_.2 ≠ gb207)∧(gb208 ≠ s_.2)∧(s_.2 ≠ gb208)∧(gb209 ≠ s_.2)∧(s_.2 ≠ gb209)∧(Below w.heap.size w w')) ?_ ?_
 rotate_left
 ·intro hJ2_3_5_6_7
  refine join_ (σ:=Nat) 3 #[tt,tt,tt,tt,tt,tt,tt,ff,ff,ff] (fun s_ => [(10,.agg #[.int .i64 t210,.int .i64 t211,.int .i64 t212,.int .i64 t213]),(11,.agg #[.int .u64 t214,.int .u64 t215,.int .u64 t216,.int .u64 t217]),(13,.agg #[.int .u64 t218,.int .u64 t219,.int .u64 t220,.int .u64 t221]),(5,.pointer (some ⟨s_,0,none⟩))]) (fun s_ w' => (w'.cell? ⟨gb207,0,none⟩ = some (.int .i64 a0_0)∧w'.cell? ⟨gb207,1,none⟩ = some (.int .i64 a0_1)∧w'.cell? ⟨gb207,2,none⟩ = some (.int .i64 a0_2)∧w'.cell? ⟨gb207,3,none⟩ = some (.int .i64 a0_3)∧w'.cell? ⟨gb208,0,none⟩ = some (.int .i64 a1_0)∧w'.cell? ⟨gb208,1,none⟩ = some (.int .i64 a1_1)∧w'.cell? ⟨gb208,2,none⟩ = some (.int .i64 a1_2)∧w'.cell? ⟨gb208,3,none⟩ = some (.int .i64 a1_3))∧(w'.heap[gb207]? = some (.cells #[.int .i64 a0_0,.int .i64 a0_1,.int .i64 a0_2,.int .i64 a0_3] 35 (0,0)))∧(w'.heap[gb208]? = some (.cells #[.int .i64 a1_0,.int .i64 a1_1,.int .i64 a1_2,.int .i64 a1_3] 35 (0,0)))∧(w'.heap[gb209]? = some (.cells #[.int .u64 0,.int .u64 0,.int .u64 0,.int .u64 0] 79 (0,0)))∧(w'.heap[s_]? = some (.cells #[.int .u64 0,.int .u64 0,.int .u64 0,.int .u64 0] 79 (0,0)))∧(w.heap.size ≤ s_)∧(w.heap.size ≤ s_)∧(gb207 ≠ s_)∧(s_ ≠ gb207)∧(gb208 ≠ s_)∧(s_ ≠ gb208)∧(gb209 ≠ s_)∧(s_ ≠ gb209)∧(Below w.heap.size w w')) ?_ ?_
  rotate_left
  ·intro hJ2_3_5_6
   refine join_ (σ:=Nat) 3 #[tt,tt,tt,tt,tt,tt,ff,tt,ff,ff] (fun s_ => [(10,.agg #[.int .i64 t210,.int .i64 t211,.int .i64 t212,.int .i64 t213]),(11,.agg #[.int .u64 t214,.int .u64 t215,.int .u64 t216,.int .u64 t217]),(13,.agg #[.int .u64 t218,.int .u64 t219,.int .u64 t220,.int .u64 t221]),(6,.pointer (some ⟨s_,0,none⟩))]) (fun s_ w' => (w'.cell? ⟨gb207,0,none⟩ = some (.int .i64 a0_0)∧w'.cell? ⟨gb207,1,none⟩ = some (.int .i64 a0_1)∧w'.cell? ⟨gb207,2,none⟩ = some (.int .i64 a0_2)∧w'.cell? ⟨gb207,3,none⟩ = some (.int .i64 a0_3)∧w'.cell? ⟨gb208,0,none⟩ = some (.int .i64 a1_0)∧w'.cell? ⟨gb208,1,none⟩ = some (.int .i64 a1_1)∧w'.cell? ⟨gb208,2,none⟩ = some (.int .i64 a1_2)∧w'.cell? ⟨gb208,3,none⟩ = some (.int .i64 a1_3))∧(w'.heap[gb207]? = some (.cells #[.int .i64 a0_0,.int .i64 a0_1,.int .i64 a0_2,.int .i64 a0_3] 35 (0,0)))∧(w'.heap[gb208]? = some (.cells #[.int .i64 a1_0,.int .i64 a1_1,.int .i64 a1_2,.int .i64 a1_3] 35 (0,0)))∧(w'.heap[gb209]? = some (.cells #[.int .u64 0,.int .u64 0,.int .u64 0,.int .u64 0] 79 (0,0)))∧(w'.heap[s_]? = some (.cells #[.int .u64 0,.int .u64 0,.int .u64 0,.int .u64 0] 79 (0,0)))∧(w.heap.size ≤ s_)∧(w.heap.size ≤ s_)∧(gb207 ≠ s_)∧(s_ ≠ gb207)∧(gb208 ≠ s_)∧(s_ ≠ gb208)∧(gb209 ≠ s_)∧(s_ ≠ gb209)∧(Below w.heap.size w w')) ?_ ?_
   rotate_left
   ·intro hJ2_3_5_7
    refine join_ (σ:=Nat × Nat) 3 #[tt,tt,tt,tt,tt,ff,tt,tt,ff,ff] (fun s_ => [(10,.agg #[.int .i64 t210,.int .i64 t211,.int .i64 t212,.int .i64 t213]),(11,.agg #[.int .u64 t214,.int .u64 t215,.int .u64 t216,.int .u64 t217]),(5,.pointer (some ⟨s_.1,0,none⟩)),(6,.pointer (some ⟨s_.2,0,none⟩))]) (fun s_ w' => (w'.cell? ⟨gb207,0,none⟩ = some (.int .i64 a0_0)∧w'.cell? ⟨gb207,1,none⟩ = some (.int .i64 a0_1)∧w'.cell? ⟨gb207,2,none⟩ = some (.int .i64 a0_2)∧w'.cell? ⟨gb207,3,none⟩ = some (.int .i64 a0_3)∧w'.cell? ⟨gb208,0,none⟩ = some (.int .i64 a1_0)∧w'.cell? ⟨gb208,1,none⟩ = some (.int .i64 a1_1)∧w'.cell? ⟨gb208,2,none⟩ = some (.int .i64 a1_2)∧w'.cell? ⟨gb208,3,none⟩ = some (.int .i64 a1_3))∧(w'.heap[gb207]? = some (.cells #[.int .i64 a0_0,.int .i64 a0_1,.int .i64 a0_2,.int .i64 a0_3] 35 (0,0)))∧(w'.heap[gb208]? = some (.cells #[.int .i64 a1_0,.int .i64 a1_1,.int .i64 a1_2,.int .i64 a1_3] 35 (0,0)))∧(w'.heap[gb209]? = some (.cells #[.int .u64 0,.int .u64 0,.int .u64 0,.int .u64 0] 79 (0,0)))∧(w'.heap[s_.1]? = some (.cells #[.int .u64 0,.int .u64 0,.int .u64 0,.int .u64 0] 79 (0,0)))∧(w'.heap[s_.2]? = some (.cells #[.int .u64 0,.int .u64 0,.int .u64 0,.int .u64 0] 79 (0,0)))∧(w.heap.size ≤ s_.1)∧(w.heap.size ≤ s_.1)∧(gb207 ≠ s_.1)∧(s_.1 ≠ gb207)∧(gb208 ≠ s_.1)∧(s_.1 ≠ gb208)∧(gb209 ≠ s_.1)∧(s_.1 ≠ gb209)∧(s_.2 ≠ s_.1)∧(s_.1 ≠ s_.2)∧(w.heap.size ≤ s_.2)∧(w.heap.size ≤ s_.2)∧(gb207 ≠ s_.2)∧(s_.2 ≠ gb207)∧(gb208 ≠ s_.2)∧(s_.2 ≠ gb208)∧(gb209 ≠ s_.2)∧(s_.2 ≠ gb209)∧(Below w.heap.size w w')) ?_ ?_
    rotate_left
    ·intro hJ2_3_6_7
     refine join_ (σ:=Unit) 4 #[tt,tt,tt,tt,tt,tt,ff,ff,ff,ff] (fun s_ => [(10,.agg #[.int .i64 t210,.int .i64 t211,.int .i64 t212,.int .i64 t213]),(11,.agg #[.int .u64 t214,.int .u64 t215,.int .u64 t216,.int .u64 t217]),(13,.agg #[.int .u64 t218,.int .u64 t219,.int .u64 t220,.int .u64 t221])]) (fun s_ w' => (w'.cell? ⟨gb207,0,none⟩ = some (.int .i64 a0_0)∧w'.cell? ⟨gb207,1,none⟩ = some (.int .i64 a0_1)∧w'.cell? ⟨gb207,2,none⟩ = some (.int .i64 a0_2)∧w'.cell? ⟨gb207,3,none⟩ = some (.int .i64 a0_3)∧w'.cell? ⟨gb208,0,none⟩ = some (.int .i64 a1_0)∧w'.cell? ⟨gb208,1,none⟩ = some (.int .i64 a1_1)∧w'.cell? ⟨gb208,2,none⟩ = some (.int .i64 a1_2)∧w'.cell? ⟨gb208,3,none⟩ = some (.int .i64 a1_3))∧(w'.heap[gb207]? = some (.cells #[.int .i64 a0_0,.int .i64 a0_1,.int .i64 a0_2,.int .i64 a0_3] 35 (0,0)))∧(w'.heap[gb208]? = some (.cells #[.int .i64 a1_0,.int .i64 a1_1,.int .i64 a1_2,.int .i64 a1_3] 35 (0,0)))∧(w'.heap[gb209]? = some (.cells #[.int .u64 0,.int .u64 0,.int .u64 0,.int .u64 0] 79 (0,0)))∧(Below w.heap.size w w')) ?_ ?_
     rotate_left
     ·intro hJ2_3_5
      refine join_ (σ:=Nat) 4 #[tt,tt,tt,tt,tt,ff,tt,ff,ff,ff] (fun s_ => [(10,.agg #[.int .i64 t210,.int .i64 t211,.int .i64 t212,.int .i64 t213]),(11,.agg #[.int .u64 t214,.int .u64 t215,.int .u64 t216,.int .u64 t217]),(5,.pointer (some ⟨s_,0,none⟩))]) (fun s_ w' => (w'.cell? ⟨gb207,0,none⟩ = some (.int .i64 a0_0)∧w'.cell? ⟨gb207,1,none⟩ = some (.int .i64 a0_1)∧w'.cell? ⟨gb207,2,none⟩ = some (.int .i64 a0_2)∧w'.cell? ⟨gb207,3,none⟩ = some (.int .i64 a0_3)∧w'.cell? ⟨gb208,0,none⟩ = some (.int .i64 a1_0)∧w'.cell? ⟨gb208,1,none⟩ = some (.int .i64 a1_1)∧w'.cell? ⟨gb208,2,none⟩ = some (.int .i64 a1_2)∧w'.cell? ⟨gb208,3,none⟩ = some (.int .i64 a1_3))∧(w'.heap[gb207]? = some (.cells #[.int .i64 a0_0,.int .i64 a0_1,.int .i64 a0_2,.int .i64 a0_3] 35 (0,0)))∧(w'.heap[gb208]? = some (.cells #[.int .i64 a1_0,.int .i64 a1_1,.int .i64 a1_2,.int .i64 a1_3] 35 (0,0)))∧(w'.heap[gb209]? = some (.cells #[.int .u64 0,.int .u64 0,.int .u64 0,.int .u64 0] 79 (0,0)))∧(w'.heap[s_]? = some (.cells #[.int .u64 0,.int .u64 0,.int .u64 0,.int .u64 0] 79 (0,0)))∧(w.heap.size ≤ s_)∧(w.heap.size ≤ s_)∧(gb207 ≠ s_)∧(s_ ≠ gb207)∧(gb208 ≠ s_)∧(s_ ≠ gb208)∧(gb209 ≠ s_)∧(s_ ≠ gb209)∧(Below w.heap.size w w')) ?_ ?_
      rotate_left
      ·intro hJ2_3_6
       refine join_ (σ:=Nat) 4 #[tt,tt,tt,tt,tt,ff,ff,tt,ff,ff] (fun s_ => [(10,.agg #[.int .i64 t210,.int .i64 t211,.int .i64 t212,.int .i64 t213]),(11,.agg #[.int .u64 t214,.int .u64 t215,.int .u64 t216,.int .u64 t217]),(6,.pointer (some ⟨s_,0,none⟩))]) (fun s_ w' => (w'.cell? ⟨gb207,0,none⟩ = some (.int .i64 a0_0)∧w'.cell? ⟨gb207,1,none⟩ = some (.int .i64 a0_1)∧w'.cell? ⟨gb207,2,none⟩ = some (.int .i64 a0_2)∧w'.cell? ⟨gb207,3,none⟩ = some (.int .i64 a0_3)∧w'.cell? ⟨gb208,0,none⟩ = some (.int .i64 a1_0)∧w'.cell? ⟨gb208,1,none⟩ = some (.int .i64 a1_1)∧w'.cell? ⟨gb208,2,none⟩ = some (.int .i64 a1_2)∧w'.cell? ⟨gb208,3,none⟩ = some (.int .i64 a1_3))∧(w'.heap[gb207]? = some (.cells #[.int .i64 a0_0,.int .i64 a0_1,.int .i64 a0_2,.int .i64 a0_3] 35 (0,0)))∧(w'.heap[gb208]? = some (.cells #[.int .i64 a1_0,.int .i64 a1_1,.int .i64 a1_2,.int .i64 a1_3] 35 (0,0)))∧(w'.heap[gb209]? = some (.cells #[.int .u64 0,.int .u64 0,.int .u64 0,.int .u64 0] 79 (0,0)))∧(w'.heap[s_]? = some (.cells #[.int .u64 0,.int .u64 0,.int .u64 0,.int .u64 0] 79 (0,0)))∧(w.heap.size ≤ s_)∧(w.heap.size ≤ s_)∧(gb207 ≠ s_)∧(s_ ≠ gb207)∧(gb208 ≠ s_)∧(s_ ≠ gb208)∧(gb209 ≠ s_)∧(s_ ≠ gb209)∧(Below w.heap.size w w')) ?_ ?_
       rotate_left
       ·intro hJ2_3_7
        refine join_ (σ:=Nat × Nat) 4 #[tt,tt,tt,ff,tt,ff,tt,tt,ff,ff] (fun s_ => [(10,.agg #[.int .i64 t210,.int .i64 t211,.int .i64 t212,.int .i64 t213]),(5,.pointer (some ⟨s_.1,0,none⟩)),(6,.pointer (some ⟨s_.2,0,none⟩))]) (fun s_ w' => (w'.cell? ⟨gb207,0,none⟩ = some (.int .i64 a0_0)∧w'.cell? ⟨gb207,1,none⟩ = some (.int .i64 a0_1)∧w'.cell? ⟨gb207,2,none⟩ = some (.int .i64 a0_2)∧w'.cell? ⟨gb207,3,none⟩ = some (.int .i64 a0_3)∧w'.cell? ⟨gb208,0,none⟩ = some (.int .i64 a1_0)∧w'.cell? ⟨gb208,1,none⟩ = some (.int .i64 a1_1)∧w'.cell? ⟨gb208,2,none⟩ = some (.int .i64 a1_2)∧w'.cell? ⟨gb208,3,none⟩ = some (.int .i64 a1_3))∧(w'.heap[gb207]? = some (.cells #[.int .i64 a0_0,.int .i64 a0_1,.int .i64 a0_2,.int .i64 a0_3] 35 (0,0)))∧(w'.heap[gb208]? = some (.cells #[.int .i64 a1_0,.int .i64 a1_1,.int .i64 a1_2,.int .i64 a1_3] 35 (0,0)))∧(w'.heap[gb209]? = some (.cells #[.int .u64 0,.int .u64 0,.int .u64 0,.int .u64 0] 79 (0,0)))∧(w'.heap[s_.1]? = some (.cells #[.int .u64 0,.int .u64 0,.int .u64 0,.int .u64 0] 79 (0,0)))∧(w'.heap[s_.2]? = some (.cells #[.int .u64 0,.int .u64 0,.int .u64 0,.int .u64 0] 79 (0,0)))∧(w.heap.size ≤ s_.1)∧(w.heap.size ≤ s_.1)∧(gb207 ≠ s_.1)∧(s_.1 ≠ gb207)∧(gb208 ≠ s_.1)∧(s_.1 ≠ gb208)∧(gb209 ≠ s_.1)∧(s_.1 ≠ gb209)∧(s_.2 ≠ s_.1)∧(s_.1 ≠ s_.2)∧(w.heap.size ≤ s_.2)∧(w.heap.size ≤ s_.2)∧(gb207 ≠ s_.2)∧(s_.2 ≠ gb207)∧(gb208 ≠ s_.2)∧(s_.2 ≠ gb208)∧(gb209 ≠ s_.2)∧(s_.2 ≠ gb209)∧(Below w.heap.size w w')) ?_ ?_
        rotate_left
        ·intro hJ2_6_7
         refine join_ (σ:=Unit) 5 #[tt,tt,tt,tt,tt,ff,ff,ff,ff,ff] (fun s_ => [(10,.agg #[.int .i64 t210,.int .i64 t211,.int .i64 t212,.int .i64 t213]),(11,.agg #[.int .u64 t214,.int .u64 t215,.int .u64 t216,.int .u64 t217])]) (fun s_ w' => (w'.cell? ⟨gb207,0,none⟩ = some (.int .i64 a0_0)∧w'.cell? ⟨gb207,1,none⟩ = some (.int .i64 a0_1)∧w'.cell? ⟨gb207,2,none⟩ = some (.int .i64 a0_2)∧w'.cell? ⟨gb207,3,none⟩ = some (.int .i64 a0_3)∧w'.cell? ⟨gb208,0,none⟩ = some (.int .i64 a1_0)∧w'.cell? ⟨gb208,1,none⟩ = some (.int .i64 a1_1)∧w'.cell? ⟨gb208,2,none⟩ = some (.int .i64 a1_2)∧w'.cell? ⟨gb208,3,none⟩ = some (.int .i64 a1_3))∧(w'.heap[gb207]? = some (.cells #[.int .i64 a0_0,.int .i64 a0_1,.int .i64 a0_2,.int .i64 a0_3] 35 (0,0)))∧(w'.heap[gb208]? = some (.cells #[.int .i64 a1_0,.int .i64 a1_1,.int .i64 a1_2,.int .i64 a1_3] 35 (0,0)))∧(w'.heap[gb209]? = some (.cells #[.int .u64 0,.int .u64 0,.int .u64 0,.int .u64 0] 79 (0,0)))∧(Below w.heap.size w w')) ?_ ?_
         rotate_left
         ·intro hJ2_3
          refine join_ (σ:=Nat) 5 #[tt,tt,tt,ff,tt,ff,tt,ff,ff,ff] (fun s_ => [(10,.agg #[.int .i64 t210,.int .i64 t211,.int .i64 t212,.int .i64 t213]),(5,.pointer (some ⟨s_,0,none⟩))]) (fun s_ w' => (w'.cell? ⟨gb207,0,none⟩ = some (.int .i64 a0_0)∧w'.cell? ⟨gb207,1,none⟩ = some (.int .i64 a0_1)∧w'.cell? ⟨gb207,2,none⟩ = some (.int .i64 a0_2)∧w'.cell? ⟨gb207,3,none⟩ = some (.int .i64 a0_3)∧w'.cell? ⟨gb208,0,none⟩ = some (.int .i64 a1_0)∧w'.cell? ⟨gb208,1,none⟩ = some (.int .i64 a1_1)∧w'.cell? ⟨gb208,2,none⟩ = some (.int .i64 a1_2)∧w'.cell? ⟨gb208,3,none⟩ = some (.int .i64 a1_3))∧(w'.heap[gb207]? = some (.cells #[.int .i64 a0_0,.int .i64 a0_1,.int .i64 a0_2,.int .i64 a0_3] 35 (0,0)))∧(w'.heap[gb208]? = some (.cells #[.int .i64 a1_0,.int .i64 a1_1,.int .i64 a1_2,.int .i64 a1_3] 35 (0,0)))∧(w'.heap[gb209]? = some (.cells #[.int .u64 0,.int .u64 0,.int .u64 0,.int .u64 0] 79 (0,0)))∧(w'.heap[s_]? = some (.cells #[.int .u64 0,.int .u64 0,.int .u64 0,.int .u64 0] 79 (0,0)))∧(w.heap.size ≤ s_)∧(w.heap.size ≤ s_)∧(gb207 ≠ s_)∧(s_ ≠ gb207)∧(gb208 ≠ s_)∧(s_ ≠ gb208)∧(gb209 ≠ s_)∧(s_ ≠ gb209)∧(Below w.heap.size w w')) ?_ ?_
          rotate_left
          ·intro hJ2_6
           refine join_ (σ:=Nat) 5 #[tt,tt,tt,ff,tt,ff,ff,tt,ff,ff] (fun s_ => [(10,.agg #[.int .i64 t210,.int .i64 t211,.int .i64 t212,.int .i64 t213]),(6,.pointer (some ⟨s_,0,none⟩))]) (fun s_ w' => (w'.cell? ⟨gb207,0,none⟩ = some (.int .i64 a0_0)∧w'.cell? ⟨gb207,1,none⟩ = some (.int .i64 a0_1)∧w'.cell? ⟨gb207,2,none⟩ = some (.int .i64 a0_2)∧w'.cell? ⟨gb207,3,none⟩ = some (.int .i64 a0_3)∧w'.cell? ⟨gb208,0,none⟩ = some (.int .i64 a1_0)∧w'.cell? ⟨gb208,1,none⟩ = some (.int .i64 a1_1)∧w'.cell? ⟨gb208,2,none⟩ = some (.int .i64 a1_2)∧w'.cell? ⟨gb208,3,none⟩ = some (.int .i64 a1_3))∧(w'.heap[gb207]? = some (.cells #[.int .i64 a0_0,.int .i64 a0_1,.int .i64 a0_2,.int .i64 a0_3] 35 (0,0)))∧(w'.heap[gb208]? = some (.cells #[.int .i64 a1_0,.int .i64 a1_1,.int .i64 a1_2,.int .i64 a1_3] 35 (0,0)))∧(w'.heap[gb209]? = some (.cells #[.int .u64 0,.int .u64 0,.int .u64 0,.int .u64 0] 79 (0,0)))∧(w'.heap[s_]? = some (.cells #[.int .u64 0,.int .u64 0,.int .u64 0,.int .u64 0] 79 (0,0)))∧(w.heap.size ≤ s_)∧(w.heap.size ≤ s_)∧(gb207 ≠ s_)∧(s_ ≠ gb207)∧(gb208 ≠ s_)∧(s_ ≠ gb208)∧(gb209 ≠ s_)∧(s_ ≠ gb209)∧(Below w.heap.size w w')) ?_ ?_
           rotate_left
           ·intro hJ2_7
            refine join_ (σ:=Nat × Nat) 5 #[tt,tt,ff,ff,tt,ff,tt,tt,ff,ff] (fun s_ => [(5,.pointer (some ⟨s_.1,0,none⟩)),(6,.pointer (some ⟨s_.2,0,none⟩))]) (fun s_ w' => (w'.cell? ⟨gb207,0,none⟩ = some (.int .i64 a0_0)∧w'.cell? ⟨gb207,1,none⟩ = some (.int .i64 a0_1)∧w'.cell? ⟨gb207,2,none⟩ = some (.int .i64 a0_2)∧w'.cell? ⟨gb207,3,none⟩ = some (.int .i64 a0_3)∧w'.cell? ⟨gb208,0,none⟩ = some (.int .i64 a1_0)∧w'.cell? ⟨gb208,1,none⟩ = some (.int .i64 a1_1)∧w'.cell? ⟨gb208,2,none⟩ = some (.int .i64 a1_2)∧w'.cell? ⟨gb208,3,none⟩ = some (.int .i64 a1_3))∧(w'.heap[gb207]? = some (.cells #[.int .i64 a0_0,.int .i64 a0_1,.int .i64 a0_2,.int .i64 a0_3] 35 (0,0)))∧(w'.heap[gb208]? = some (.cells #[.int .i64 a1_0,.int .i64 a1_1,.int .i64 a1_2,.int .i64 a1_3] 35 (0,0)))∧(w'.heap[gb209]? = some (.cells #[.int .u64 0,.int .u64 0,.int .u64 0,.int .u64 0] 79 (0,0)))∧(w'.heap[s_.1]? = some (.cells #[.int .u64 0,.int .u64 0,.int .u64 0,.int .u64 0] 79 (0,0)))∧(w'.heap[s_.2]? = some (.cells #[.int .u64 0,.int .u64 0,.int .u64 0,.int .u64 0] 79 (0,0)))∧(w.heap.size ≤ s_.1)∧(w.heap.size ≤ s_.1)∧(gb207 ≠ s_.1)∧(s_.1 ≠ gb207)∧(gb208 ≠ s_.1)∧(s_.1 ≠ gb208)∧(gb209 ≠ s_.1)∧(s_.1 ≠ gb209)∧(s_.2 ≠ s_.1)∧(s_.1 ≠ s_.2)∧(w.heap.size ≤ s_.2)∧(w.heap.size ≤ s_.2)∧(gb207 ≠ s_.2)∧(s_.2 ≠ gb207)∧(gb208 ≠ s_.2)∧(s_.2 ≠ gb208)∧(gb209 ≠ s_.2)∧(s_.2 ≠ gb209)∧(Below w.heap.size w w')) ?_ ?_
            rotate_left
            ·intro hJ6_7
             refine join_ (σ:=Unit) 6 #[tt,tt,tt,ff,tt,ff,ff,ff,ff,ff] (fun s_ => [(10,.agg #[.int .i64 t210,.int .i64 t211,.int .i64 t212,.int .i64 t213])]) (fun s_ w' => (w'.cell? ⟨gb207,0,none⟩ = some (.int .i64 a0_0)∧w'.cell? ⟨gb207,1,none⟩ = some (.int .i64 a0_1)∧w'.cell? ⟨gb207,2,none⟩ = some (.int .i64 a0_2)∧w'.cell? ⟨gb207,3,none⟩ = some (.int .i64 a0_3)∧w'.cell? ⟨gb208,0,none⟩ = some (.int .i64 a1_0)∧w'.cell? ⟨gb208,1,none⟩ = some (.int .i64 a1_1)∧w'.cell? ⟨gb208,2,none⟩ = some (.int .i64 a1_2)∧w'.cell? ⟨gb208,3,none⟩ = some (.int .i64 a1_3))∧(w'.heap[gb207]? = some (.cells #[.int .i64 a0_0,.int .i64 a0_1,.int .i64 a0_2,.int .i64 a0_3] 35 (0,0)))∧(w'.heap[gb208]? = some (.cells #[.int .i64 a1_0,.int .i64 a1_1,.int .i64 a1_2,.int .i64 a1_3] 35 (0,0)))∧(w'.heap[gb209]? = some (.cells #[.int .u64 0,.int .u64 0,.int .u64 0,.int .u64 0] 79 (0,0)))∧(Below w.heap.size w w')) ?_ ?_
             rotate_left
             ·intro hJ2
              refine join_ (σ:=Nat) 6 #[tt,tt,ff,ff,tt,ff,tt,ff,ff,ff] (fun s_ => [(5,.pointer (some ⟨s_,0,none⟩))]) (fun s_ w' => (w'.cell? ⟨gb207,0,none⟩ = some (.int .i64 a0_0)∧w'.cell? ⟨gb207,1,none⟩ = some (.int .i64 a0_1)∧w'.cell? ⟨gb207,2,none⟩ = some (.int .i64 a0_2)∧w'.cell? ⟨gb207,3,none⟩ = some (.int .i64 a0_3)∧w'.cell? ⟨gb208,0,none⟩ = some (.int .i64 a1_0)∧w'.cell? ⟨gb208,1,none⟩ = some (.int .i64 a1_1)∧w'.cell? ⟨gb208,2,none⟩ = some (.int .i64 a1_2)∧w'.cell? ⟨gb208,3,none⟩ = some (.int .i64 a1_3))∧(w'.heap[gb207]? = some (.cells #[.int .i64 a0_0,.int .i64 a0_1,.int .i64 a0_2,.int .i64 a0_3] 35 (0,0)))∧(w'.heap[gb208]? = some (.cells #[.int .i64 a1_0,.int .i64 a1_1,.int .i64 a1_2,.int .i64 a1_3] 35 (0,0)))∧(w'.heap[gb209]? = some (.cells #[.int .u64 0,.int .u64 0,.int .u64 0,.int .u64 0] 79 (0,0)))∧(w'.heap[s_]? = some (.cells #[.int .u64 0,.int .u64 0,.int .u64 0,.int .u64 0] 79 (0,0)))∧(w.heap.size ≤ s_)∧(w.heap.size ≤ s_)∧(gb207 ≠ s_)∧(s_ ≠ gb207)∧(gb208 ≠ s_)∧(s_ ≠ gb208)∧(gb209 ≠ s_)∧(s_ ≠ gb209)∧(Below w.heap.size w w')) ?_ ?_
              rotate_left
              ·intro hJ6
               refine join_ (σ:=Nat) 6 #[tt,tt,ff,ff,tt,ff,ff,tt,ff,ff] (fun s_ => [(6,.pointer (some ⟨s_,0,none⟩))]) (fun s_ w' => (w'.cell? ⟨gb207,0,none⟩ = some (.int .i64 a0_0)∧w'.cell? ⟨gb207,1,none⟩ = some (.int .i64 a0_1)∧w'.cell? ⟨gb207,2,none⟩ = some (.int .i64 a0_2)∧w'.cell? ⟨gb207,3,none⟩ = some (.int .i64 a0_3)∧w'.cell? ⟨gb208,0,none⟩ = some (.int .i64 a1_0)∧w'.cell? ⟨gb208,1,none⟩ = some (.int .i64 a1_1)∧w'.cell? ⟨gb208,2,none⟩ = some (.int .i64 a1_2)∧w'.cell? ⟨gb208,3,none⟩ = some (.int .i64 a1_3))∧(w'.heap[gb207]? = some (.cells #[.int .i64 a0_0,.int .i64 a0_1,.int .i64 a0_2,.int .i64 a0_3] 35 (0,0)))∧(w'.heap[gb208]? = some (.cells #[.int .i64 a1_0,.int .i64 a1_1,.int .i64 a1_2,.int .i64 a1_3] 35 (0,0)))∧(w'.heap[gb209]? = some (.cells #[.int .u64 0,.int .u64 0,.int .u64 0,.int .u64 0] 79 (0,0)))∧(w'.heap[s_]? = some (.cells #[.int .u64 0,.int .u64 0,.int .u64 0,.int .u64 0] 79 (0,0)))∧(w.heap.size ≤ s_)∧(w.heap.size ≤ s_)∧(gb207 ≠ s_)∧(s_ ≠ gb207)∧(gb208 ≠ s_)∧(s_ ≠ gb208)∧(gb209 ≠ s_)∧(s_ ≠ gb209)∧(Below w.heap.size w w')) ?_ ?_
               rotate_left
               ·intro hJ7
                refine three_ (i:=2) (j:=6) (k:=7) (Ni:=some 10) (Nj:=some 5) (Nk:=some 6) #[tt,tt,tt,ff,tt,ff,ff,ff,ff,ff] #[tt,tt,ff,ff,tt,ff,tt,ff,ff,ff] #[tt,tt,ff,ff,tt,ff,ff,tt,ff,ff] rfl rfl rfl rfl rfl rfl (three_of HT_.out (by kernel_rfl)) (by decide) (by decide) (by decide) (fun K hK => ?_) (fun K hK => ?_) (fun K hK => ?_)
                ·skip
                 refine goes_ Try.func40 (by kernel_rfl) rfl #[.agg #[.int .i64 a0_0,.int .i64 a0_1,.int .i64 a0_2,.int .i64 a0_3],.agg #[.int .i64 a1_0,.int .i64 a1_1,.int .i64 a1_2,.int .i64 a1_3]] (by rfl) rfl rfl (by (try simp only [List.map_toArray,List.map_cons,List.map_nil]);first|done|rfl|(simp only [List.length_drop,List.length_take];rfl)) ?_
                 with_reducible refine (key_Union.calls a0_0 a0_1 a0_2 a0_3 a1_0 a1_1 a1_2 a1_3 t210 t211 t212 t213 _ A3.out).mono ?_
                 rintro e w12 ⟨rfl,hb⟩
                 refine ⟨_,rfl,?_⟩
                 have n0_:=Kb BK207 hb
                 have n1_:=Kb BK208 hb
                 have n2_:=Kb BK209 hb
                 have n3_:=Ak (below_step (by repeat (first|(with_reducible first|exact HB.out|apply bA|apply bN|apply bD|refine bS ?_ GE207.out|refine bS ?_ GE208.out|refine bS ?_ GE209.out)|exact HB.out)) hb)
                 clear BK207 BK208 BK209 HB
                 have BK207:=n0_;have BK208:=n1_;have BK209:=n2_;have HB:=n3_
                 clear n0_ n1_ n2_ n3_
                 (try clear hb)
                 (try clear hb2)
                 (try clear hk)
                 (try clear hi)
                 refine hK.out _ _ ⟨(kC BK207.out 0).trans rfl,(kC BK207.out 1).trans rfl,(kC BK207.out 2).trans rfl,(kC BK207.out 3).trans rfl,(kC BK208.out 0).trans rfl,(kC BK208.out 1).trans rfl,(kC BK208.out 2).trans rfl,(kC BK208.out 3).trans rfl⟩ (fun hHeld => ?_)
                 clear hK K
                 refine norm_ (a':=?_) ?_ ?_
                 rotate_left
                 ·show Act.put _ (some 10) _ = _
                  simp only [Act.put,sA,sZ,sS,i64_w,i32_w]
                  rfl
                 exact norm_ (by first|(simp only [putAll,Act.put,sA,sZ,sS];done)|(simp only [putAll,Act.put,sA,sZ,sS];rfl)) (hJ2 () _ ⟨hHeld,BK207.out,BK208.out,BK209.out,(by repeat (first|(with_reducible first|exact HB.out|apply bA|apply bN|apply bD|refine bS ?_ GE207.out|refine bS ?_ GE208.out|refine bS ?_ GE209.out)|exact HB.out))⟩)
                ·skip
                 refine box_step ?hg (N:=5) ?hd (cs:=#[.int .u64 0,.int .u64 0,.int .u64 0,.int .u64 0]) (t:=79) ?hr ?_;(case hd => rfl);(case hg => rfl);(case hr => first|(go_simp;done)|(go_simp;rfl))
                 intro gb222 hg w12 hbox hb
                 have n0_:=Kb BK207 hb
                 have n1_:=Kb BK208 hb
                 have n2_:=Kb BK209 hb
                 have n3_:=Ak (below_step (by repeat (first|(with_reducible first|exact HB.out|apply bA|apply bN|apply bD|refine bS ?_ GE207.out|refine bS ?_ GE208.out|refine bS ?_ GE209.out)|exact HB.out)) hb)
                 have n4_:=Ak (hbox)
                 have n5_:=Ak ((by rw [hg];exact (below_size (by repeat (first|(with_reducible first|exact HB.out|apply bA|apply bN|apply bD|refine bS ?_ GE207.out|refine bS ?_ GE208.out|refine bS ?_ GE209.out)|exact HB.out))) : w.heap.size ≤ gb222))
                 have n6_:=Ak ((by rw [hg];exact (below_size (by repeat (first|(with_reducible first|exact HB.out|apply bA|apply bN|apply bD|refine bS ?_ GE207.out|refine bS ?_ GE208.out|refine bS ?_ GE209.out)|exact HB.out))) : w.heap.size ≤ gb222))
                 have n7_:=Kl hg BK207
                 have n8_:=Km hg BK207
                 have n9_:=Kl hg BK208
                 have n10_:=Km hg BK208
                 have n11_:=Kl hg BK209
                 have n12_:=Km hg BK209
                 clear BK207 BK208 BK209 HB
                 have BK207:=n0_;have BK208:=n1_;have BK209:=n2_;have HB:=n3_;have BK222:=n4_;have GW222:=n5_;have GE222:=n6_;have NB207_222:=n7_;have NB222_207:=n8_;have NB208_222:=n9_;have NB222_208:=n10_;have NB209_222:=n11_;have NB222_209:=n12_
                 clear n0_ n1_ n2_ n3_ n4_ n5_ n6_ n7_ n8_ n9_ n10_ n11_ n12_ hb hbox hg
                 refine hK.out _ _ ⟨(kC BK207.out 0).trans rfl,(kC BK207.out 1).trans rfl,(kC BK207.out 2).trans rfl,(kC BK207.out 3).trans rfl,(kC BK208.out 0).trans rfl,(kC BK208.out 1).trans rfl,(kC BK208.out 2).trans rfl,(kC BK208.out 3).trans rfl⟩ (fun hHeld => ?_)
                 clear hK K
                 refine norm_ (a':=?_) ?_ ?_
                 rotate_left
                 ·show Act.put _ (some 5) _ = _
                  simp only [Act.put,sA,sZ,sS,i64_w,i32_w]
                  rfl
                 exact norm_ (by first|(simp only [putAll,Act.put,sA,sZ,sS];done)|(simp only [putAll,Act.put,sA,sZ,sS];rfl)) (hJ6 (gb222) _ ⟨hHeld,BK207.out,BK208.out,BK209.out,BK222.out,GW222.out,GE222.out,NB207_222.out,NB222_207.out,NB208_222.out,NB222_208.out,NB209_222.out,NB222_209.out,(by repeat (first|(with_reducible first|exact HB.out|apply bA|apply bN|apply bD|refine bS ?_ GE207.out|refine bS ?_ GE208.out|refine bS ?_ GE209.out|refine bS ?_ GE222.out)|exact HB.out))⟩)
                ·skip
                 refine box_step ?hg (N:=6) ?hd (cs:=#[.int .u64 0,.int .u64 0,.int .u64 0,.int .u64 0]) (t:=79) ?hr ?_;(case hd => rfl);(case hg => rfl);(case hr => first|(go_simp;done)|(go_simp;rfl))
                 intro gb223 hg w12 hbox hb
                 have n0_:=Kb BK207 hb
                 have n1_:=Kb BK208 hb
                 have n2_:=Kb BK209 hb
                 have n3_:=Ak (below_step (by repeat (first|(with_reducible first|exact HB.out|apply bA|apply bN|apply bD|refine bS ?_ GE207.out|refine bS ?_ GE208.out|refine bS ?_ GE209.out)|exact HB.out)) hb)
                 have n4_:=Ak (hbox)
                 have n5_:=Ak ((by rw [hg];exact (below_size (by repeat (first|(with_reducible first|exact HB.out|apply bA|apply bN|apply bD|refine bS ?_ GE207.out|refine bS ?_ GE208.out|refine bS ?_ GE209.out)|exact HB.out))) : w.heap.size ≤ gb223))
                 have n6_:=Ak ((by rw [hg];exact (below_size (by repeat (first|(with_reducible first|exact HB.out|apply bA|apply bN|apply bD|refine bS ?_ GE207.out|refine bS ?_ GE208.out|refine bS ?_ GE209.out)|exact HB.out))) : w.heap.size ≤ gb223))
                 have n7_:=Kl hg BK207
                 have n8_:=Km hg BK207
                 have n9_:=Kl hg BK208
                 have n10_:=Km hg BK208
                 have n11_:=Kl hg BK209
                 have n12_:=Km hg BK209
                 clear BK207 BK208 BK209 HB
                 have BK207:=n0_;have BK208:=n1_;have BK209:=n2_;have HB:=n3_;have BK223:=n4_;have GW223:=n5_;have GE223:=n6_;have NB207_223:=n7_;have NB223_207:=n8_;have NB208_223:=n9_;have NB223_208:=n10_;have NB209_223:=n11_;have NB223_209:=n12_
                 clear n0_ n1_ n2_ n3_ n4_ n5_ n6_ n7_ n8_ n9_ n10_ n11_ n12_ hb hbox hg
                 refine hK.out _ _ ⟨(kC BK207.out 0).trans rfl,(kC BK207.out 1).trans rfl,(kC BK207.out 2).trans rfl,(kC BK207.out 3).trans rfl,(kC BK208.out 0).trans rfl,(kC BK208.out 1).trans rfl,(kC BK208.out 2).trans rfl,(kC BK208.out 3).trans rfl⟩ (fun hHeld => ?_)
                 clear hK K
                 refine norm_ (a':=?_) ?_ ?_
                 rotate_left
                 ·show Act.put _ (some 6) _ = _
                  simp only [Act.put,sA,sZ,sS,i64_w,i32_w]
                  rfl
                 exact norm_ (by first|(simp only [putAll,Act.put,sA,sZ,sS];done)|(simp only [putAll,Act.put,sA,sZ,sS];rfl)) (hJ7 (gb223) _ ⟨hHeld,BK207.out,BK208.out,BK209.out,BK223.out,GW223.out,GE223.out,NB207_223.out,NB223_207.out,NB208_223.out,NB223_208.out,NB209_223.out,NB223_209.out,(by repeat (first|(with_reducible first|exact HB.out|apply bA|apply bN|apply bD|refine bS ?_ GE207.out|refine bS ?_ GE208.out|refine bS ?_ GE209.out|refine bS ?_ GE223.out)|exact HB.out))⟩)
               ·skip
                rintro gb223 w13 ⟨hS_,h0_,h1_,h2_,h3_,h4_,h5_,h6_,h7_,h8_,h9_,h10_,h11_,h12_⟩
                have n0_ : Aside0 (w13.heap[gb207]? = some (.cells #[.int .i64 a0_0,.int .i64 a0_1,.int .i64 a0_2,.int .i64 a0_3] 35 (0,0))):=⟨h0_⟩
                have n1_ : Aside0 (w13.heap[gb208]? = some (.cells #[.int .i64 a1_0,.int .i64 a1_1,.int .i64 a1_2,.int .i64 a1_3] 35 (0,0))):=⟨h1_⟩
                have n2_ : Aside0 (w13.heap[gb209]? = some (.cells #[.int .u64 0,.int .u64 0,.int .u64 0,.int .u64 0] 79 (0,0))):=⟨h2_⟩
                have n3_ : Aside0 (w13.heap[gb223]? = some (.cells #[.int .u64 0,.int .u64 0,.int .u64 0,.int .u64 0] 79 (0,0))):=⟨h3_⟩
                have n4_ : Aside0 (w.heap.size ≤ gb223):=⟨h4_⟩
                have n5_ : Aside0 (w.heap.size ≤ gb223):=⟨h5_⟩
                have n6_ : Aside0 (gb207 ≠ gb223):=⟨h6_⟩
                have n7_ : Aside0 (gb223 ≠ gb207):=⟨h7_⟩
                have n8_ : Aside0 (gb208 ≠ gb223):=⟨h8_⟩
                have n9_ : Aside0 (gb223 ≠ gb208):=⟨h9_⟩
                have n10_ : Aside0 (gb209 ≠ gb223):=⟨h10_⟩
                have n11_ : Aside0 (gb223 ≠ gb209):=⟨h11_⟩
                have n12_ : Aside0 (Below w.heap.size w w13):=⟨h12_⟩
                clear BK207 BK208 BK209 HB h0_ h1_ h2_ h3_ h4_ h5_ h6_ h7_ h8_ h9_ h10_ h11_ h12_
                have BK207:=n0_;have BK208:=n1_;have BK209:=n2_;have BK223:=n3_;have GW223:=n4_;have GE223:=n5_;have NB207_223:=n6_;have NB223_207:=n7_;have NB208_223:=n8_;have NB223_208:=n9_;have NB209_223:=n10_;have NB223_209:=n11_;have HB:=n12_
                clear n0_ n1_ n2_ n3_ n4_ n5_ n6_ n7_ n8_ n9_ n10_ n11_ n12_
                have hHeld : w13.cell? ⟨gb207,0,none⟩ = some (.int .i64 a0_0)∧w13.cell? ⟨gb207,1,none⟩ = some (.int .i64 a0_1)∧w13.cell? ⟨gb207,2,none⟩ = some (.int .i64 a0_2)∧w13.cell? ⟨gb207,3,none⟩ = some (.int .i64 a0_3)∧w13.cell? ⟨gb208,0,none⟩ = some (.int .i64 a1_0)∧w13.cell? ⟨gb208,1,none⟩ = some (.int .i64 a1_1)∧w13.cell? ⟨gb208,2,none⟩ = some (.int .i64 a1_2)∧w13.cell? ⟨gb208,3,none⟩ = some (.int .i64 a1_3):=hS_
                refine norm_ (a':=?_) ?_ ?_
                rotate_left
                ·simp only [putAll,Act.put,sA,sZ,sS]
                 rfl
                refine two_ (i:=2) (j:=6) (Ni:=some 10) (Nj:=some 5) #[tt,tt,tt,ff,tt,ff,ff,tt,ff,ff] #[tt,tt,ff,ff,tt,ff,tt,tt,ff,ff] rfl rfl rfl rfl (two_of HT_.out (by kernel_rfl)) (by decide) (by decide) (fun K hK => ?_) (fun K hK => ?_)
                ·skip
                 refine goes_ Try.func40 (by kernel_rfl) rfl #[.agg #[.int .i64 a0_0,.int .i64 a0_1,.int .i64 a0_2,.int .i64 a0_3],.agg #[.int .i64 a1_0,.int .i64 a1_1,.int .i64 a1_2,.int .i64 a1_3]] (by rfl) rfl rfl (by (try simp only [List.map_toArray,List.map_cons,List.map_nil]);first|done|rfl|(simp only [List.length_drop,List.length_take];rfl)) ?_
                 with_reducible refine (key_Union.calls a0_0 a0_1 a0_2 a0_3 a1_0 a1_1 a1_2 a1_3 t210 t211 t212 t213 _ A3.out).mono ?_
                 rintro e w14 ⟨rfl,hb⟩
                 refine ⟨_,rfl,?_⟩
                 have n0_:=Kb BK207 hb
                 have n1_:=Kb BK208 hb
                 have n2_:=Kb BK209 hb
                 have n3_:=Kb BK223 hb
                 have n4_:=Ak (below_step (by repeat (first|(with_reducible first|exact HB.out|apply bA|apply bN|apply bD|refine bS ?_ GE207.out|refine bS ?_ GE208.out|refine bS ?_ GE209.out|refine bS ?_ GE223.out)|exact HB.out)) hb)
                 clear BK207 BK208 BK209 BK223 HB
                 have BK207:=n0_;have BK208:=n1_;have BK209:=n2_;have BK223:=n3_;have HB:=n4_
                 clear n0_ n1_ n2_ n3_ n4_
                 (try clear hb)
                 (try clear hb2)
                 (try clear hk)
                 (try clear hi)
                 refine hK.out _ _ ⟨(kC BK207.out 0).trans rfl,(kC BK207.out 1).trans rfl,(kC BK207.out 2).trans rfl,(kC BK207.out 3).trans rfl,(kC BK208.out 0).trans rfl,(kC BK208.out 1).trans rfl,(kC BK208.out 2).trans rfl,(kC BK208.out 3).trans rfl⟩ (fun hHeld => ?_)
                 clear hK K
                 refine norm_ (a':=?_) ?_ ?_
                 rotate_left
                 ·show Act.put _ (some 10) _ = _
                  simp only [Act.put,sA,sZ,sS,i64_w,i32_w]
                  rfl
                 exact norm_ (by first|(simp only [putAll,Act.put,sA,sZ,sS];done)|(simp only [putAll,Act.put,sA,sZ,sS];rfl)) (hJ2_7 (gb223) _ ⟨hHeld,BK207.out,BK208.out,BK209.out,BK223.out,GW223.out,GE223.out,NB207_223.out,NB223_207.out,NB208_223.out,NB223_208.out,NB209_223.out,NB223_209.out,(by repeat (first|(with_reducible first|exact HB.out|apply bA|apply bN|apply bD|refine bS ?_ GE207.out|refine bS ?_ GE208.out|refine bS ?_ GE209.out|refine bS ?_ GE223.out)|exact HB.out))⟩)
                ·skip
                 refine box_step ?hg (N:=5) ?hd (cs:=#[.int .u64 0,.int .u64 0,.int .u64 0,.int .u64 0]) (t:=79) ?hr ?_;(case hd => rfl);(case hg => rfl);(case hr => first|(go_simp;done)|(go_simp;rfl))
                 intro gb222 hg w14 hbox hb
                 have n0_:=Kb BK207 hb
                 have n1_:=Kb BK208 hb
                 have n2_:=Kb BK209 hb
                 have n3_:=Kb BK223 hb
                 have n4_:=Ak (below_step (by repeat (first|(with_reducible first|exact HB.out|apply bA|apply bN|apply bD|refine bS ?_ GE207.out|refine bS ?_ GE208.out|refine bS ?_ GE209.out|refine bS ?_ GE223.out)|exact HB.out)) hb)
                 have n5_:=Ak (hbox)
                 have n6_:=Ak ((by rw [hg];exact (below_size (by repeat (first|(with_reducible first|exact HB.out|apply bA|apply bN|apply bD|refine bS ?_ GE207.out|refine bS ?_ GE208.out|refine bS ?_ GE209.out|refine bS ?_ GE223.out)|exact HB.out))) : w.heap.size ≤ gb222))
                 have n7_:=Ak ((by rw [hg];exact (below_size (by repeat (first|(with_reducible first|exact HB.out|apply bA|apply bN|apply bD|refine bS ?_ GE207.out|refine bS ?_ GE208.out|refine bS ?_ GE209.out|refine bS ?_ GE223.out)|exact HB.out))) : w.heap.size ≤ gb222))
                 have n8_:=Kl hg BK207
                 have n9_:=Km hg BK207
                 have n10_:=Kl hg BK208
                 have n11_:=Km hg BK208
                 have n12_:=Kl hg BK209
                 have n13_:=Km hg BK209
                 have n14_:=Kl hg BK223
                 have n15_:=Km hg BK223
                 clear BK207 BK208 BK209 BK223 HB
                 have BK207:=n0_;have BK208:=n1_;have BK209:=n2_;have BK223:=n3_;have HB:=n4_;have BK222:=n5_;have GW222:=n6_;have GE222:=n7_;have NB207_222:=n8_;have NB222_207:=n9_;have NB208_222:=n10_;have NB222_208:=n11_;have NB209_222:=n12_;have NB222_209:=n13_;have NB223_222:=n14_;have NB222_223:=n15_
                 clear n0_ n1_ n2_ n3_ n4_ n5_ n6_ n7_ n8_ n9_ n10_ n11_ n12_ n13_ n14_ n15_ hb hbox hg
                 refine hK.out _ _ ⟨(kC BK207.out 0).trans rfl,(kC BK207.out 1).trans rfl,(kC BK207.out 2).trans rfl,(kC BK207.out 3).trans rfl,(kC BK208.out 0).trans rfl,(kC BK208.out 1).trans rfl,(kC BK208.out 2).trans rfl,(kC BK208.out 3).trans rfl⟩ (fun hHeld => ?_)
                 clear hK K
                 refine norm_ (a':=?_) ?_ ?_
                 rotate_left
                 ·show Act.put _ (some 5) _ = _
                  simp only [Act.put,sA,sZ,sS,i64_w,i32_w]
                  rfl
                 exact norm_ (by first|(simp only [putAll,Act.put,sA,sZ,sS];done)|(simp only [putAll,Act.put,sA,sZ,sS];rfl)) (hJ6_7 (gb222,gb223) _ ⟨hHeld,BK207.out,BK208.out,BK209.out,BK222.out,BK223.out,GW222.out,GE222.out,NB207_222.out,NB222_207.out,NB208_222.out,NB222_208.out,NB209_222.out,NB222_209.out,NB223_222.out,NB222_223.out,GW223.out,GE223.out,NB207_223.out,NB223_207.out,NB208_223.out,NB223_208.out,NB209_223.out,NB223_209.out,(by repeat (first|(with_reducible first|exact HB.out|apply bA|apply bN|apply bD|refine bS ?_ GE207.out|refine bS ?_ GE208.out|refine bS ?_ GE209.out|refine bS ?_ GE223.out|refine bS ?_ GE222.out)|exact HB.out))⟩)
              ·skip
               rintro gb222 w13 ⟨hS_,h0_,h1_,h2_,h3_,h4_,h5_,h6_,h7_,h8_,h9_,h10_,h11_,h12_⟩
               have n0_ : Aside0 (w13.heap[gb207]? = some (.cells #[.int .i64 a0_0,.int .i64 a0_1,.int .i64 a0_2,.int .i64 a0_3] 35 (0,0))):=⟨h0_⟩
               have n1_ : Aside0 (w13.heap[gb208]? = some (.cells #[.int .i64 a1_0,.int .i64 a1_1,.int .i64 a1_2,.int .i64 a1_3] 35 (0,0))):=⟨h1_⟩
               have n2_ : Aside0 (w13.heap[gb209]? = some (.cells #[.int .u64 0,.int .u64 0,.int .u64 0,.int .u64 0] 79 (0,0))):=⟨h2_⟩
               have n3_ : Aside0 (w13.heap[gb222]? = some (.cells #[.int .u64 0,.int .u64 0,.int .u64 0,.int .u64 0] 79 (0,0))):=⟨h3_⟩
               have n4_ : Aside0 (w.heap.size ≤ gb222):=⟨h4_⟩
               have n5_ : Aside0 (w.heap.size ≤ gb222):=⟨h5_⟩
               have n6_ : Aside0 (gb207 ≠ gb222):=⟨h6_⟩
               have n7_ : Aside0 (gb222 ≠ gb207):=⟨h7_⟩
               have n8_ : Aside0 (gb208 ≠ gb222):=⟨h8_⟩
               have n9_ : Aside0 (gb222 ≠ gb208):=⟨h9_⟩
               have n10_ : Aside0 (gb209 ≠ gb222):=⟨h10_⟩
               have n11_ : Aside0 (gb222 ≠ gb209):=⟨h11_⟩
               have n12_ : Aside0 (Below w.heap.size w w13):=⟨h12_⟩
               clear BK207 BK208 BK209 HB h0_ h1_ h2_ h3_ h4_ h5_ h6_ h7_ h8_ h9_ h10_ h11_ h12_
               have BK207:=n0_;have BK208:=n1_;have BK209:=n2_;have BK222:=n3_;have GW222:=n4_;have GE222:=n5_;have NB207_222:=n6_;have NB222_207:=n7_;have NB208_222:=n8_;have NB222_208:=n9_;have NB209_222:=n10_;have NB222_209:=n11_;have HB:=n12_
               clear n0_ n1_ n2_ n3_ n4_ n5_ n6_ n7_ n8_ n9_ n10_ n11_ n12_
               have hHeld : w13.cell? ⟨gb207,0,none⟩ = some (.int .i64 a0_0)∧w13.cell? ⟨gb207,1,none⟩ = some (.int .i64 a0_1)∧w13.cell? ⟨gb207,2,none⟩ = some (.int .i64 a0_2)∧w13.cell? ⟨gb207,3,none⟩ = some (.int .i64 a0_3)∧w13.cell? ⟨gb208,0,none⟩ = some (.int .i64 a1_0)∧w13.cell? ⟨gb208,1,none⟩ = some (.int .i64 a1_1)∧w13.cell? ⟨gb208,2,none⟩ = some (.int .i64 a1_2)∧w13.cell? ⟨gb208,3,none⟩ = some (.int .i64 a1_3):=hS_
               refine norm_ (a':=?_) ?_ ?_
               rotate_left
               ·simp only [putAll,Act.put,sA,sZ,sS]
                rfl
               refine two_ (i:=2) (j:=7) (Ni:=some 10) (Nj:=some 6) #[tt,tt,tt,ff,tt,ff,tt,ff,ff,ff] #[tt,tt,ff,ff,tt,ff,tt,tt,ff,ff] rfl rfl rfl rfl (two_of HT_.out (by kernel_rfl)) (by decide) (by decide) (fun K hK => ?_) (fun K hK => ?_)
               ·skip
                refine goes_ Try.func40 (by kernel_rfl) rfl #[.agg #[.int .i64 a0_0,.int .i64 a0_1,.int .i64 a0_2,.int .i64 a0_3],.agg #[.int .i64 a1_0,.int .i64 a1_1,.int .i64 a1_2,.int .i64 a1_3]] (by rfl) rfl rfl (by (try simp only [List.map_toArray,List.map_cons,List.map_nil]);first|done|rfl|(simp only [List.length_drop,List.length_take];rfl)) ?_
                with_reducible refine (key_Union.calls a0_0 a0_1 a0_2 a0_3 a1_0 a1_1 a1_2 a1_3 t210 t211 t212 t213 _ A3.out).mono ?_
                rintro e w14 ⟨rfl,hb⟩
                refine ⟨_,rfl,?_⟩
                have n0_:=Kb BK207 hb
                have n1_:=Kb BK208 hb
                have n2_:=Kb BK209 hb
                have n3_:=Kb BK222 hb
                have n4_:=Ak (below_step (by repeat (first|(with_reducible first|exact HB.out|apply bA|apply bN|apply bD|refine bS ?_ GE207.out|refine bS ?_ GE208.out|refine bS ?_ GE209.out|refine bS ?_ GE222.out)|exact HB.out)) hb)
                clear BK207 BK208 BK209 BK222 HB
                have BK207:=n0_;have BK208:=n1_;have BK209:=n2_;have BK222:=n3_;have HB:=n4_
                clear n0_ n1_ n2_ n3_ n4_
                (try clear hb)
                (try clear hb2)
                (try clear hk)
                (try clear hi)
                refine hK.out _ _ ⟨(kC BK207.out 0).trans rfl,(kC BK207.out 1).trans rfl,(kC BK207.out 2).trans rfl,(kC BK207.out 3).trans rfl,(kC BK208.out 0).trans rfl,(kC BK208.out 1).trans rfl,(kC BK208.out 2).trans rfl,(kC BK208.out 3).trans rfl⟩ (fun hHeld => ?_)
                clear hK K
                refine norm_ (a':=?_) ?_ ?_
                rotate_left
                ·show Act.put _ (some 10) _ = _
                 simp only [Act.put,sA,sZ,sS,i64_w,i32_w]
                 rfl
                exact norm_ (by first|(simp only [putAll,Act.put,sA,sZ,sS];done)|(simp only [putAll,Act.put,sA,sZ,sS];rfl)) (hJ2_6 (gb222) _ ⟨hHeld,BK207.out,BK208.out,BK209.out,BK222.out,GW222.out,GE222.out,NB207_222.out,NB222_207.out,NB208_222.out,NB222_208.out,NB209_222.out,NB222_209.out,(by repeat (first|(with_reducible first|exact HB.out|apply bA|apply bN|apply bD|refine bS ?_ GE207.out|refine bS ?_ GE208.out|refine bS ?_ GE209.out|refine bS ?_ GE222.out)|exact HB.out))⟩)
               ·skip
                refine box_step ?hg (N:=6) ?hd (cs:=#[.int .u64 0,.int .u64 0,.int .u64 0,.int .u64 0]) (t:=79) ?hr ?_;(case hd => rfl);(case hg => rfl);(case hr => first|(go_simp;done)|(go_simp;rfl))
                intro gb223 hg w14 hbox hb
                have n0_:=Kb BK207 hb
                have n1_:=Kb BK208 hb
                have n2_:=Kb BK209 hb
                have n3_:=Kb BK222 hb
                have n4_:=Ak (below_step (by repeat (first|(with_reducible first|exact HB.out|apply bA|apply bN|apply bD|refine bS ?_ GE207.out|refine bS ?_ GE208.out|refine bS ?_ GE209.out|refine bS ?_ GE222.out)|exact HB.out)) hb)
                have n5_:=Ak (hbox)
                have n6_:=Ak ((by rw [hg];exact (below_size (by repeat (first|(with_reducible first|exact HB.out|apply bA|apply bN|apply bD|refine bS ?_ GE207.out|refine bS ?_ GE208.out|refine bS ?_ GE209.out|refine bS ?_ GE222.out)|exact HB.out))) : w.heap.size ≤ gb223))
                have n7_:=Ak ((by rw [hg];exact (below_size (by repeat (first|(with_reducible first|exact HB.out|apply bA|apply bN|apply bD|refine bS ?_ GE207.out|refine bS ?_ GE208.out|refine bS ?_ GE209.out|refine bS ?_ GE222.out)|exact HB.out))) : w.heap.size ≤ gb223))
                have n8_:=Kl hg BK207
                have n9_:=Km hg BK207
                have n10_:=Kl hg BK208
                have n11_:=Km hg BK208
                have n12_:=Kl hg BK209
                have n13_:=Km hg BK209
                have n14_:=Kl hg BK222
                have n15_:=Km hg BK222
                clear BK207 BK208 BK209 BK222 HB
                have BK207:=n0_;have BK208:=n1_;have BK209:=n2_;have BK222:=n3_;have HB:=n4_;have BK223:=n5_;have GW223:=n6_;have GE223:=n7_;have NB207_223:=n8_;have NB223_207:=n9_;have NB208_223:=n10_;have NB223_208:=n11_;have NB209_223:=n12_;have NB223_209:=n13_;have NB222_223:=n14_;have NB223_222:=n15_
                clear n0_ n1_ n2_ n3_ n4_ n5_ n6_ n7_ n8_ n9_ n10_ n11_ n12_ n13_ n14_ n15_ hb hbox hg
                refine hK.out _ _ ⟨(kC BK207.out 0).trans rfl,(kC BK207.out 1).trans rfl,(kC BK207.out 2).trans rfl,(kC BK207.out 3).trans rfl,(kC BK208.out 0).trans rfl,(kC BK208.out 1).trans rfl,(kC BK208.out 2).trans rfl,(kC BK208.out 3).trans rfl⟩ (fun hHeld => ?_)
                clear hK K
                refine norm_ (a':=?_) ?_ ?_
                rotate_left
                ·show Act.put _ (some 6) _ = _
                 simp only [Act.put,sA,sZ,sS,i64_w,i32_w]
                 rfl
                exact norm_ (by first|(simp only [putAll,Act.put,sA,sZ,sS];done)|(simp only [putAll,Act.put,sA,sZ,sS];rfl)) (hJ6_7 (gb222,gb223) _ ⟨hHeld,BK207.out,BK208.out,BK209.out,BK222.out,BK223.out,GW222.out,GE222.out,NB207_222.out,NB222_207.out,NB208_222.out,NB222_208.out,NB209_222.out,NB222_209.out,NB223_222.out,NB222_223.out,GW223.out,GE223.out,NB207_223.out,NB223_207.out,NB208_223.out,NB223_208.out,NB209_223.out,NB223_209.out,(by repeat (first|(with_reducible first|exact HB.out|apply bA|apply bN|apply bD|refine bS ?_ GE207.out|refine bS ?_ GE208.out|refine bS ?_ GE209.out|refine bS ?_ GE222.out|refine bS ?_ GE223.out)|exact HB.out))⟩)
             ·skip
              rintro _ w13 ⟨hS_,h0_,h1_,h2_,h3_⟩
              have n0_ : Aside0 (w13.heap[gb207]? = some (.cells #[.int .i64 a0_0,.int .i64 a0_1,.int .i64 a0_2,.int .i64 a0_3] 35 (0,0))):=⟨h0_⟩
              have n1_ : Aside0 (w13.heap[gb208]? = some (.cells #[.int .i64 a1_0,.int .i64 a1_1,.int .i64 a1_2,.int .i64 a1_3] 35 (0,0))):=⟨h1_⟩
              have n2_ : Aside0 (w13.heap[gb209]? = some (.cells #[.int .u64 0,.int .u64 0,.int .u64 0,.int .u64 0] 79 (0,0))):=⟨h2_⟩
              have n3_ : Aside0 (Below w.heap.size w w13):=⟨h3_⟩
              clear BK207 BK208 BK209 HB h0_ h1_ h2_ h3_
              have BK207:=n0_;have BK208:=n1_;have BK209:=n2_;have HB:=n3_
              clear n0_ n1_ n2_ n3_
              have hHeld : w13.cell? ⟨gb207,0,none⟩ = some (.int .i64 a0_0)∧w13.cell? ⟨gb207,1,none⟩ = some (.int .i64 a0_1)∧w13.cell? ⟨gb207,2,none⟩ = some (.int .i64 a0_2)∧w13.cell? ⟨gb207,3,none⟩ = some (.int .i64 a0_3)∧w13.cell? ⟨gb208,0,none⟩ = some (.int .i64 a1_0)∧w13.cell? ⟨gb208,1,none⟩ = some (.int .i64 a1_1)∧w13.cell? ⟨gb208,2,none⟩ = some (.int .i64 a1_2)∧w13.cell? ⟨gb208,3,none⟩ = some (.int .i64 a1_3):=hS_
              refine norm_ (a':=?_) ?_ ?_
              rotate_left
              ·simp only [putAll,Act.put,sA,sZ,sS]
               rfl
              refine three_ (i:=3) (j:=6) (k:=7) (Ni:=some 11) (Nj:=some 5) (Nk:=some 6) #[tt,tt,tt,tt,tt,ff,ff,ff,ff,ff] #[tt,tt,tt,ff,tt,ff,tt,ff,ff,ff] #[tt,tt,tt,ff,tt,ff,ff,tt,ff,ff] rfl rfl rfl rfl rfl rfl (three_of HT_.out (by kernel_rfl)) (by decide) (by decide) (by decide) (fun K hK => ?_) (fun K hK => ?_) (fun K hK => ?_)
              ·skip
               refine goes_ Try.func64 (by kernel_rfl) rfl #[.agg #[.int .i64 t210,.int .i64 t211,.int .i64 t212,.int .i64 t213]] (by rfl) rfl rfl (by (try simp only [List.map_toArray,List.map_cons,List.map_nil]);first|done|rfl|(simp only [List.length_drop,List.length_take];rfl)) ?_
               with_reducible refine (key_of.calls t210 t211 t212 t213 t214 t215 t216 t217 _ A4.out).mono ?_
               rintro e w14 ⟨rfl,hb⟩
               refine ⟨_,rfl,?_⟩
               have n0_:=Kb BK207 hb
               have n1_:=Kb BK208 hb
               have n2_:=Kb BK209 hb
               have n3_:=Ak (below_step (by repeat (first|(with_reducible first|exact HB.out|apply bA|apply bN|apply bD|refine bS ?_ GE207.out|refine bS ?_ GE208.out|refine bS ?_ GE209.out)|exact HB.out)) hb)
               clear BK207 BK208 BK209 HB
               have BK207:=n0_;have BK208:=n1_;have BK209:=n2_;have HB:=n3_
               clear n0_ n1_ n2_ n3_
               (try clear hb)
               (try clear hb2)
               (try clear hk)
               (try clear hi)
               refine hK.out _ _ ⟨(kC BK207.out 0).trans rfl,(kC BK207.out 1).trans rfl,(kC BK207.out 2).trans rfl,(kC BK207.out 3).trans rfl,(kC BK208.out 0).trans rfl,(kC BK208.out 1).trans rfl,(kC BK208.out 2).trans rfl,(kC BK208.out 3).trans rfl⟩ (fun hHeld => ?_)
               clear hK K
               refine norm_ (a':=?_) ?_ ?_
               rotate_left
               ·show Act.put _ (some 11) _ = _
                simp only [Act.put,sA,sZ,sS,i64_w,i32_w]
                rfl
               exact norm_ (by first|(simp only [putAll,Act.put,sA,sZ,sS];done)|(simp only [putAll,Act.put,sA,sZ,sS];rfl)) (hJ2_3 () _ ⟨hHeld,BK207.out,BK208.out,BK209.out,(by repeat (first|(with_reducible first|exact HB.out|apply bA|apply bN|apply bD|refine bS ?_ GE207.out|refine bS ?_ GE208.out|refine bS ?_ GE209.out)|exact HB.out))⟩)
              ·skip
               refine box_step ?hg (N:=5) ?hd (cs:=#[.int .u64 0,.int .u64 0,.int .u64 0,.int .u64 0]) (t:=79) ?hr ?_;(case hd => rfl);(case hg => rfl);(case hr => first|(go_simp;done)|(go_simp;rfl))
               intro gb222 hg w14 hbox hb
               have n0_:=Kb BK207 hb
               have n1_:=Kb BK208 hb
               have n2_:=Kb BK209 hb
               have n3_:=Ak (below_step (by repeat (first|(with_reducible first|exact HB.out|apply bA|apply bN|apply bD|refine bS ?_ GE207.out|refine bS ?_ GE208.out|refine bS ?_ GE209.out)|exact HB.out)) hb)
               have n4_:=Ak (hbox)
               have n5_:=Ak ((by rw [hg];exact (below_size (by repeat (first|(with_reducible first|exact HB.out|apply bA|apply bN|apply bD|refine bS ?_ GE207.out|refine bS ?_ GE208.out|refine bS ?_ GE209.out)|exact HB.out))) : w.heap.size ≤ gb222))
               have n6_:=Ak ((by rw [hg];exact (below_size (by repeat (first|(with_reducible first|exact HB.out|apply bA|apply bN|apply bD|refine bS ?_ GE207.out|refine bS ?_ GE208.out|refine bS ?_ GE209.out)|exact HB.out))) : w.heap.size ≤ gb222))
               have n7_:=Kl hg BK207
               have n8_:=Km hg BK207
               have n9_:=Kl hg BK208
               have n10_:=Km hg BK208
               have n11_:=Kl hg BK209
               have n12_:=Km hg BK209
               clear BK207 BK208 BK209 HB
               have BK207:=n0_;have BK208:=n1_;have BK209:=n2_;have HB:=n3_;have BK222:=n4_;have GW222:=n5_;have GE222:=n6_;have NB207_222:=n7_;have NB222_207:=n8_;have NB208_222:=n9_;have NB222_208:=n10_;have NB209_222:=n11_;have NB222_209:=n12_
               clear n0_ n1_ n2_ n3_ n4_ n5_ n6_ n7_ n8_ n9_ n10_ n11_ n12_ hb hbox hg
               refine hK.out _ _ ⟨(kC BK207.out 0).trans rfl,(kC BK207.out 1).trans rfl,(kC BK207.out 2).trans rfl,(kC BK207.out 3).trans rfl,(kC BK208.out 0).trans rfl,(kC BK208.out 1).trans rfl,(kC BK208.out 2).trans rfl,(kC BK208.out 3).trans rfl⟩ (fun hHeld => ?_)
               clear hK K
               refine norm_ (a':=?_) ?_ ?_
               rotate_left
               ·show Act.put _ (some 5) _ = _
                simp only [Act.put,sA,sZ,sS,i64_w,i32_w]
                rfl
               exact norm_ (by first|(simp only [putAll,Act.put,sA,sZ,sS];done)|(simp only [putAll,Act.put,sA,sZ,sS];rfl)) (hJ2_6 (gb222) _ ⟨hHeld,BK207.out,BK208.out,BK209.out,BK222.out,GW222.out,GE222.out,NB207_222.out,NB222_207.out,NB208_222.out,NB222_208.out,NB209_222.out,NB222_209.out,(by repeat (first|(with_reducible first|exact HB.out|apply bA|apply bN|apply bD|refine bS ?_ GE207.out|refine bS ?_ GE208.out|refine bS ?_ GE209.out|refine bS ?_ GE222.out)|exact HB.out))⟩)
              ·skip
               refine box_step ?hg (N:=6) ?hd (cs:=#[.int .u64 0,.int .u64 0,.int .u64 0,.int .u64 0]) (t:=79) ?hr ?_;(case hd => rfl);(case hg => rfl);(case hr => first|(go_simp;done)|(go_simp;rfl))
               intro gb223 hg w14 hbox hb
               have n0_:=Kb BK207 hb
               have n1_:=Kb BK208 hb
               have n2_:=Kb BK209 hb
               have n3_:=Ak (below_step (by repeat (first|(with_reducible first|exact HB.out|apply bA|apply bN|apply bD|refine bS ?_ GE207.out|refine bS ?_ GE208.out|refine bS ?_ GE209.out)|exact HB.out)) hb)
               have n4_:=Ak (hbox)
               have n5_:=Ak ((by rw [hg];exact (below_size (by repeat (first|(with_reducible first|exact HB.out|apply bA|apply bN|apply bD|refine bS ?_ GE207.out|refine bS ?_ GE208.out|refine bS ?_ GE209.out)|exact HB.out))) : w.heap.size ≤ gb223))
               have n6_:=Ak ((by rw [hg];exact (below_size (by repeat (first|(with_reducible first|exact HB.out|apply bA|apply bN|apply bD|refine bS ?_ GE207.out|refine bS ?_ GE208.out|refine bS ?_ GE209.out)|exact HB.out))) : w.heap.size ≤ gb223))
               have n7_:=Kl hg BK207
               have n8_:=Km hg BK207
               have n9_:=Kl hg BK208
               have n10_:=Km hg BK208
               have n11_:=Kl hg BK209
               have n12_:=Km hg BK209
               clear BK207 BK208 BK209 HB
               have BK207:=n0_;have BK208:=n1_;have BK209:=n2_;have HB:=n3_;have BK223:=n4_;have GW223:=n5_;have GE223:=n6_;have NB207_223:=n7_;have NB223_207:=n8_;have NB208_223:=n9_;have NB223_208:=n10_;have NB209_223:=n11_;have NB223_209:=n12_
               clear n0_ n1_ n2_ n3_ n4_ n5_ n6_ n7_ n8_ n9_ n10_ n11_ n12_ hb hbox hg
               refine hK.out _ _ ⟨(kC BK207.out 0).trans rfl,(kC BK207.out 1).trans rfl,(kC BK207.out 2).trans rfl,(kC BK207.out 3).trans rfl,(kC BK208.out 0).trans rfl,(kC BK208.out 1).trans rfl,(kC BK208.out 2).trans rfl,(kC BK208.out 3).trans rfl⟩ (fun hHeld => ?_)
               clear hK K
               refine norm_ (a':=?_) ?_ ?_
               rotate_left
               ·show Act.put _ (some 6) _ = _
                simp only [Act.put,sA,sZ,sS,i64_w,i32_w]
                rfl
               exact norm_ (by first|(simp only [putAll,Act.put,sA,sZ,sS];done)|(simp only [putAll,Act.put,sA,sZ,sS];rfl)) (hJ2_7 (gb223) _ ⟨hHeld,BK207.out,BK208.out,BK209.out,BK223.out,GW223.out,GE223.out,NB207_223.out,NB223_207.out,NB208_223.out,NB223_208.out,NB209_223.out,NB223_209.out,(by repeat (first|(with_reducible first|exact HB.out|apply bA|apply bN|apply bD|refine bS ?_ GE207.out|refine bS ?_ GE208.out|refine bS ?_ GE209.out|refine bS ?_ GE223.out)|exact HB.out))⟩)
            ·skip
             rintro ⟨gb222,gb223⟩ w14 ⟨hS_,h0_,h1_,h2_,h3_,h4_,h5_,h6_,h7_,h8_,h9_,h10_,h11_,h12_,h13_,h14_,h15_,h16_,h17_,h18_,h19_,h20_,h21_,h22_,h23_⟩
             have n0_ : Aside0 (w14.heap[gb207]? = some (.cells #[.int .i64 a0_0,.int .i64 a0_1,.int .i64 a0_2,.int .i64 a0_3] 35 (0,0))):=⟨h0_⟩
             have n1_ : Aside0 (w14.heap[gb208]? = some (.cells #[.int .i64 a1_0,.int .i64 a1_1,.int .i64 a1_2,.int .i64 a1_3] 35 (0,0))):=⟨h1_⟩
             have n2_ : Aside0 (w14.heap[gb209]? = some (.cells #[.int .u64 0,.int .u64 0,.int .u64 0,.int .u64 0] 79 (0,0))):=⟨h2_⟩
             have n3_ : Aside0 (w14.heap[gb222]? = some (.cells #[.int .u64 0,.int .u64 0,.int .u64 0,.int .u64 0] 79 (0,0))):=⟨h3_⟩
             have n4_ : Aside0 (w14.heap[gb223]? = some (.cells #[.int .u64 0,.int .u64 0,.int .u64 0,.int .u64 0] 79 (0,0))):=⟨h4_⟩
             have n5_ : Aside0 (w.heap.size ≤ gb222):=⟨h5_⟩
             have n6_ : Aside0 (w.heap.size ≤ gb222):=⟨h6_⟩
             have n7_ : Aside0 (gb207 ≠ gb222):=⟨h7_⟩
             have n8_ : Aside0 (gb222 ≠ gb207):=⟨h8_⟩
             have n9_ : Aside0 (gb208 ≠ gb222):=⟨h9_⟩
             have n10_ : Aside0 (gb222 ≠ gb208):=⟨h10_⟩
             have n11_ : Aside0 (gb209 ≠ gb222):=⟨h11_⟩
             have n12_ : Aside0 (gb222 ≠ gb209):=⟨h12_⟩
             have n13_ : Aside0 (gb223 ≠ gb222):=⟨h13_⟩
             have n14_ : Aside0 (gb222 ≠ gb223):=⟨h14_⟩
             have n15_ : Aside0 (w.heap.size ≤ gb223):=⟨h15_⟩
             have n16_ : Aside0 (w.heap.size ≤ gb223):=⟨h16_⟩
             have n17_ : Aside0 (gb207 ≠ gb223):=⟨h17_⟩
             have n18_ : Aside0 (gb223 ≠ gb207):=⟨h18_⟩
             have n19_ : Aside0 (gb208 ≠ gb223):=⟨h19_⟩
             have n20_ : Aside0 (gb223 ≠ gb208):=⟨h20_⟩
             have n21_ : Aside0 (gb209 ≠ gb223):=⟨h21_⟩
             have n22_ : Aside0 (gb223 ≠ gb209):=⟨h22_⟩
             have n23_ : Aside0 (Below w.heap.size w w14):=⟨h23_⟩
             clear BK207 BK208 BK209 HB h0_ h1_ h2_ h3_ h4_ h5_ h6_ h7_ h8_ h9_ h10_ h11_ h12_ h13_ h14_ h15_ h16_ h17_ h18_ h19_ h20_ h21_ h22_ h23_
             have BK207:=n0_;have BK208:=n1_;have BK209:=n2_;have BK222:=n3_;have BK223:=n4_;have GW222:=n5_;have GE222:=n6_;have NB207_222:=n7_;have NB222_207:=n8_;have NB208_222:=n9_;have NB222_208:=n10_;have NB209_222:=n11_;have NB222_209:=n12_;have NB223_222:=n13_;have NB222_223:=n14_;have GW223:=n15_;have GE223:=n16_;have NB207_223:=n17_;have NB223_207:=n18_;have NB208_223:=n19_;have NB223_208:=n20_;have NB209_223:=n21_;have NB223_209:=n22_;have HB:=n23_
             clear n0_ n1_ n2_ n3_ n4_ n5_ n6_ n7_ n8_ n9_ n10_ n11_ n12_ n13_ n14_ n15_ n16_ n17_ n18_ n19_ n20_ n21_ n22_ n23_
             have hHeld : w14.cell? ⟨gb207,0,none⟩ = some (.int .i64 a0_0)∧w14.cell? ⟨gb207,1,none⟩ = some (.int .i64 a0_1)∧w14.cell? ⟨gb207,2,none⟩ = some (.int .i64 a0_2)∧w14.cell? ⟨gb207,3,none⟩ = some (.int .i64 a0_3)∧w14.cell? ⟨gb208,0,none⟩ = some (.int .i64 a1_0)∧w14.cell? ⟨gb208,1,none⟩ = some (.int .i64 a1_1)∧w14.cell? ⟨gb208,2,none⟩ = some (.int .i64 a1_2)∧w14.cell? ⟨gb208,3,none⟩ = some (.int .i64 a1_3):=hS_
             refine norm_ (a':=?_) ?_ ?_
             rotate_left
             ·simp only [putAll,Act.put,sA,sZ,sS]
              rfl
             refine one_ (i:=2) (N:=some 10) #[tt,tt,tt,ff,tt,ff,tt,tt,ff,ff] rfl rfl (one_of HT_.out (by kernel_rfl)) (by decide) (fun K hK => ?_)
             refine goes_ Try.func40 (by kernel_rfl) rfl #[.agg #[.int .i64 a0_0,.int .i64 a0_1,.int .i64 a0_2,.int .i64 a0_3],.agg #[.int .i64 a1_0,.int .i64 a1_1,.int .i64 a1_2,.int .i64 a1_3]] (by rfl) rfl rfl (by (try simp only [List.map_toArray,List.map_cons,List.map_nil]);first|done|rfl|(simp only [List.length_drop,List.length_take];rfl)) ?_
             with_reducible refine (key_Union.calls a0_0 a0_1 a0_2 a0_3 a1_0 a1_1 a1_2 a1_3 t210 t211 t212 t213 _ A3.out).mono ?_
             rintro e w15 ⟨rfl,hb⟩
             refine ⟨_,rfl,?_⟩
             have n0_:=Kb BK207 hb
             have n1_:=Kb BK208 hb
             have n2_:=Kb BK209 hb
             have n3_:=Kb BK222 hb
             have n4_:=Kb BK223 hb
             have n5_:=Ak (below_step (by repeat (first|(with_reducible first|exact HB.out|apply bA|apply bN|apply bD|refine bS ?_ GE207.out|refine bS ?_ GE208.out|refine bS ?_ GE209.out|refine bS ?_ GE222.out|refine bS ?_ GE223.out)|exact HB.out)) hb)
             clear BK207 BK208 BK209 BK222 BK223 HB
             have BK207:=n0_;have BK208:=n1_;have BK209:=n2_;have BK222:=n3_;have BK223:=n4_;have HB:=n5_
             clear n0_ n1_ n2_ n3_ n4_ n5_
             (try clear hb)
             (try clear hb2)
             (try clear hk)
             (try clear hi)
             refine hK.out _ _ ⟨(kC BK207.out 0).trans rfl,(kC BK207.out 1).trans rfl,(kC BK207.out 2).trans rfl,(kC BK207.out 3).trans rfl,(kC BK208.out 0).trans rfl,(kC BK208.out 1).trans rfl,(kC BK208.out 2).trans rfl,(kC BK208.out 3).trans rfl⟩ (fun hHeld => ?_)
             clear hK K
             refine norm_ (a':=?_) ?_ ?_
             rotate_left
             ·show Act.put _ (some 10) _ = _
              simp only [Act.put,sA,sZ,sS,i64_w,i32_w]
              rfl
             exact norm_ (by first|(simp only [putAll,Act.put,sA,sZ,sS];done)|(simp only [putAll,Act.put,sA,sZ,sS];rfl)) (hJ2_6_7 (gb222,gb223) _ ⟨hHeld,BK207.out,BK208.out,BK209.out,BK222.out,BK223.out,GW222.out,GE222.out,NB207_222.out,NB222_207.out,NB208_222.out,NB222_208.out,NB209_222.out,NB222_209.out,NB223_222.out,NB222_223.out,GW223.out,GE223.out,NB207_223.out,NB223_207.out,NB208_223.out,NB223_208.out,NB209_223.out,NB223_209.out,(by repeat (first|(with_reducible first|exact HB.out|apply bA|apply bN|apply bD|refine bS ?_ GE207.out|refine bS ?_ GE208.out|refine bS ?_ GE209.out|refine bS ?_ GE222.out|refine bS ?_ GE223.out)|exact HB.out))⟩)
           ·skip
            rintro gb223 w14 ⟨hS_,h0_,h1_,h2_,h3_,h4_,h5_,h6_,h7_,h8_,h9_,h10_,h11_,h12_⟩
            have n0_ : Aside0 (w14.heap[gb207]? = some (.cells #[.int .i64 a0_0,.int .i64 a0_1,.int .i64 a0_2,.int .i64 a0_3] 35 (0,0))):=⟨h0_⟩
            have n1_ : Aside0 (w14.heap[gb208]? = some (.cells #[.int .i64 a1_0,.int .i64 a1_1,.int .i64 a1_2,.int .i64 a1_3] 35 (0,0))):=⟨h1_⟩
            have n2_ : Aside0 (w14.heap[gb209]? = some (.cells #[.int .u64 0,.int .u64 0,.int .u64 0,.int .u64 0] 79 (0,0))):=⟨h2_⟩
            have n3_ : Aside0 (w14.heap[gb223]? = some (.cells #[.int .u64 0,.int .u64 0,.int .u64 0,.int .u64 0] 79 (0,0))):=⟨h3_⟩
            have n4_ : Aside0 (w.heap.size ≤ gb223):=⟨h4_⟩
            have n5_ : Aside0 (w.heap.size ≤ gb223):=⟨h5_⟩
            have n6_ : Aside0 (gb207 ≠ gb223):=⟨h6_⟩
            have n7_ : Aside0 (gb223 ≠ gb207):=⟨h7_⟩
            have n8_ : Aside0 (gb208 ≠ gb223):=⟨h8_⟩
            have n9_ : Aside0 (gb223 ≠ gb208):=⟨h9_⟩
            have n10_ : Aside0 (gb209 ≠ gb223):=⟨h10_⟩
            have n11_ : Aside0 (gb223 ≠ gb209):=⟨h11_⟩
            have n12_ : Aside0 (Below w.heap.size w w14):=⟨h12_⟩
            clear BK207 BK208 BK209 HB h0_ h1_ h2_ h3_ h4_ h5_ h6_ h7_ h8_ h9_ h10_ h11_ h12_
            have BK207:=n0_;have BK208:=n1_;have BK209:=n2_;have BK223:=n3_;have GW223:=n4_;have GE223:=n5_;have NB207_223:=n6_;have NB223_207:=n7_;have NB208_223:=n8_;have NB223_208:=n9_;have NB209_223:=n10_;have NB223_209:=n11_;have HB:=n12_
            clear n0_ n1_ n2_ n3_ n4_ n5_ n6_ n7_ n8_ n9_ n10_ n11_ n12_
            have hHeld : w14.cell? ⟨gb207,0,none⟩ = some (.int .i64 a0_0)∧w14.cell? ⟨gb207,1,none⟩ = some (.int .i64 a0_1)∧w14.cell? ⟨gb207,2,none⟩ = some (.int .i64 a0_2)∧w14.cell? ⟨gb207,3,none⟩ = some (.int .i64 a0_3)∧w14.cell? ⟨gb208,0,none⟩ = some (.int .i64 a1_0)∧w14.cell? ⟨gb208,1,none⟩ = some (.int .i64 a1_1)∧w14.cell? ⟨gb208,2,none⟩ = some (.int .i64 a1_2)∧w14.cell? ⟨gb208,3,none⟩ = some (.int .i64 a1_3):=hS_
            refine norm_ (a':=?_) ?_ ?_
            rotate_left
            ·simp only [putAll,Act.put,sA,sZ,sS]
             rfl
            refine two_ (i:=3) (j:=6) (Ni:=some 11) (Nj:=some 5) #[tt,tt,tt,tt,tt,ff,ff,tt,ff,ff] #[tt,tt,tt,ff,tt,ff,tt,tt,ff,ff] rfl rfl rfl rfl (two_of HT_.out (by kernel_rfl)) (by decide) (by decide) (fun K hK => ?_) (fun K hK => ?_)
            ·skip
             refine goes_ Try.func64 (by kernel_rfl) rfl #[.agg #[.int .i64 t210,.int .i64 t211,.int .i64 t212,.int .i64 t213]] (by rfl) rfl rfl (by (try simp only [List.map_toArray,List.map_cons,List.map_nil]);first|done|rfl|(simp only [List.length_drop,List.length_take];rfl)) ?_
             with_reducible refine (key_of.calls t210 t211 t212 t213 t214 t215 t216 t217 _ A4.out).mono ?_
             rintro e w15 ⟨rfl,hb⟩
             refine ⟨_,rfl,?_⟩
             have n0_:=Kb BK207 hb
             have n1_:=Kb BK208 hb
             have n2_:=Kb BK209 hb
             have n3_:=Kb BK223 hb
             have n4_:=Ak (below_step (by repeat (first|(with_reducible first|exact HB.out|apply bA|apply bN|apply bD|refine bS ?_ GE207.out|refine bS ?_ GE208.out|refine bS ?_ GE209.out|refine bS ?_ GE223.out)|exact HB.out)) hb)
             clear BK207 BK208 BK209 BK223 HB
             have BK207:=n0_;have BK208:=n1_;have BK209:=n2_;have BK223:=n3_;have HB:=n4_
             clear n0_ n1_ n2_ n3_ n4_
             (try clear hb)
             (try clear hb2)
             (try clear hk)
             (try clear hi)
             refine hK.out _ _ ⟨(kC BK207.out 0).trans rfl,(kC BK207.out 1).trans rfl,(kC BK207.out 2).trans rfl,(kC BK207.out 3).trans rfl,(kC BK208.out 0).trans rfl,(kC BK208.out 1).trans rfl,(kC BK208.out 2).trans rfl,(kC BK208.out 3).trans rfl⟩ (fun hHeld => ?_)
             clear hK K
             refine norm_ (a':=?_) ?_ ?_
             rotate_left
             ·show Act.put _ (some 11) _ = _
              simp only [Act.put,sA,sZ,sS,i64_w,i32_w]
              rfl
             exact norm_ (by first|(simp only [putAll,Act.put,sA,sZ,sS];done)|(simp only [putAll,Act.put,sA,sZ,sS];rfl)) (hJ2_3_7 (gb223) _ ⟨hHeld,BK207.out,BK208.out,BK209.out,BK223.out,GW223.out,GE223.out,NB207_223.out,NB223_207.out,NB208_223.out,NB223_208.out,NB209_223.out,NB223_209.out,(by repeat (first|(with_reducible first|exact HB.out|apply bA|apply bN|apply bD|refine bS ?_ GE207.out|refine bS ?_ GE208.out|refine bS ?_ GE209.out|refine bS ?_ GE223.out)|exact HB.out))⟩)
            ·skip
             refine box_step ?hg (N:=5) ?hd (cs:=#[.int .u64 0,.int .u64 0,.int .u64 0,.int .u64 0]) (t:=79) ?hr ?_;(case hd => rfl);(case hg => rfl);(case hr => first|(go_simp;done)|(go_simp;rfl))
             intro gb222 hg w15 hbox hb
             have n0_:=Kb BK207 hb
             have n1_:=Kb BK208 hb
             have n2_:=Kb BK209 hb
             have n3_:=Kb BK223 hb
             have n4_:=Ak (below_step (by repeat (first|(with_reducible first|exact HB.out|apply bA|apply bN|apply bD|refine bS ?_ GE207.out|refine bS ?_ GE208.out|refine bS ?_ GE209.out|refine bS ?_ GE223.out)|exact HB.out)) hb)
             have n5_:=Ak (hbox)
             have n6_:=Ak ((by rw [hg];exact (below_size (by repeat (first|(with_reducible first|exact HB.out|apply bA|apply bN|apply bD|refine bS ?_ GE207.out|refine bS ?_ GE208.out|refine bS ?_ GE209.out|refine bS ?_ GE223.out)|exact HB.out))) : w.heap.size ≤ gb222))
             have n7_:=Ak ((by rw [hg];exact (below_size (by repeat (first|(with_reducible first|exact HB.out|apply bA|apply bN|apply bD|refine bS ?_ GE207.out|refine bS ?_ GE208.out|refine bS ?_ GE209.out|refine bS ?_ GE223.out)|exact HB.out))) : w.heap.size ≤ gb222))
             have n8_:=Kl hg BK207
             have n9_:=Km hg BK207
             have n10_:=Kl hg BK208
             have n11_:=Km hg BK208
             have n12_:=Kl hg BK209
             have n13_:=Km hg BK209
             have n14_:=Kl hg BK223
             have n15_:=Km hg BK223
             clear BK207 BK208 BK209 BK223 HB
             have BK207:=n0_;have BK208:=n1_;have BK209:=n2_;have BK223:=n3_;have HB:=n4_;have BK222:=n5_;have GW222:=n6_;have GE222:=n7_;have NB207_222:=n8_;have NB222_207:=n9_;have NB208_222:=n10_;have NB222_208:=n11_;have NB209_222:=n12_;have NB222_209:=n13_;have NB223_222:=n14_;have NB222_223:=n15_
             clear n0_ n1_ n2_ n3_ n4_ n5_ n6_ n7_ n8_ n9_ n10_ n11_ n12_ n13_ n14_ n15_ hb hbox hg
             refine hK.out _ _ ⟨(kC BK207.out 0).trans rfl,(kC BK207.out 1).trans rfl,(kC BK207.out 2).trans rfl,(kC BK207.out 3).trans rfl,(kC BK208.out 0).trans rfl,(kC BK208.out 1).trans rfl,(kC BK208.out 2).trans rfl,(kC BK208.out 3).trans rfl⟩ (fun hHeld => ?_)
             clear hK K
             refine norm_ (a':=?_) ?_ ?_
             rotate_left
             ·show Act.put _ (some 5) _ = _
              simp only [Act.put,sA,sZ,sS,i64_w,i32_w]
              rfl
             exact norm_ (by first|(simp only [putAll,Act.put,sA,sZ,sS];done)|(simp only [putAll,Act.put,sA,sZ,sS];rfl)) (hJ2_6_7 (gb222,gb223) _ ⟨hHeld,BK207.out,BK208.out,BK209.out,BK222.out,BK223.out,GW222.out,GE222.out,NB207_222.out,NB222_207.out,NB208_222.out,NB222_208.out,NB209_222.out,NB222_209.out,NB223_222.out,NB222_223.out,GW223.out,GE223.out,NB207_223.out,NB223_207.out,NB208_223.out,NB223_208.out,NB209_223.out,NB223_209.out,(by repeat (first|(with_reducible first|exact HB.out|apply bA|apply bN|apply bD|refine bS ?_ GE207.out|refine bS ?_ GE208.out|refine bS ?_ GE209.out|refine bS ?_ GE223.out|refine bS ?_ GE222.out)|exact HB.out))⟩)
          ·skip
           rintro gb222 w14 ⟨hS_,h0_,h1_,h2_,h3_,h4_,h5_,h6_,h7_,h8_,h9_,h10_,h11_,h12_⟩
           have n0_ : Aside0 (w14.heap[gb207]? = some (.cells #[.int .i64 a0_0,.int .i64 a0_1,.int .i64 a0_2,.int .i64 a0_3] 35 (0,0))):=⟨h0_⟩
           have n1_ : Aside0 (w14.heap[gb208]? = some (.cells #[.int .i64 a1_0,.int .i64 a1_1,.int .i64 a1_2,.int .i64 a1_3] 35 (0,0))):=⟨h1_⟩
           have n2_ : Aside0 (w14.heap[gb209]? = some (.cells #[.int .u64 0,.int .u64 0,.int .u64 0,.int .u64 0] 79 (0,0))):=⟨h2_⟩
           have n3_ : Aside0 (w14.heap[gb222]? = some (.cells #[.int .u64 0,.int .u64 0,.int .u64 0,.int .u64 0] 79 (0,0))):=⟨h3_⟩
           have n4_ : Aside0 (w.heap.size ≤ gb222):=⟨h4_⟩
           have n5_ : Aside0 (w.heap.size ≤ gb222):=⟨h5_⟩
           have n6_ : Aside0 (gb207 ≠ gb222):=⟨h6_⟩
           have n7_ : Aside0 (gb222 ≠ gb207):=⟨h7_⟩
           have n8_ : Aside0 (gb208 ≠ gb222):=⟨h8_⟩
           have n9_ : Aside0 (gb222 ≠ gb208):=⟨h9_⟩
           have n10_ : Aside0 (gb209 ≠ gb222):=⟨h10_⟩
           have n11_ : Aside0 (gb222 ≠ gb209):=⟨h11_⟩
           have n12_ : Aside0 (Below w.heap.size w w14):=⟨h12_⟩
           clear BK207 BK208 BK209 HB h0_ h1_ h2_ h3_ h4_ h5_ h6_ h7_ h8_ h9_ h10_ h11_ h12_
           have BK207:=n0_;have BK208:=n1_;have BK209:=n2_;have BK222:=n3_;have GW222:=n4_;have GE222:=n5_;have NB207_222:=n6_;have NB222_207:=n7_;have NB208_222:=n8_;have NB222_208:=n9_;have NB209_222:=n10_;have NB222_209:=n11_;have HB:=n12_
           clear n0_ n1_ n2_ n3_ n4_ n5_ n6_ n7_ n8_ n9_ n10_ n11_ n12_
           have hHeld : w14.cell? ⟨gb207,0,none⟩ = some (.int .i64 a0_0)∧w14.cell? ⟨gb207,1,none⟩ = some (.int .i64 a0_1)∧w14.cell? ⟨gb207,2,none⟩ = some (.int .i64 a0_2)∧w14.cell? ⟨gb207,3,none⟩ = some (.int .i64 a0_3)∧w14.cell? ⟨gb208,0,none⟩ = some (.int .i64 a1_0)∧w14.cell? ⟨gb208,1,none⟩ = some (.int .i64 a1_1)∧w14.cell? ⟨gb208,2,none⟩ = some (.int .i64 a1_2)∧w14.cell? ⟨gb208,3,none⟩ = some (.int .i64 a1_3):=hS_
           refine norm_ (a':=?_) ?_ ?_
           rotate_left
           ·simp only [putAll,Act.put,sA,sZ,sS]
            rfl
           refine two_ (i:=3) (j:=7) (Ni:=some 11) (Nj:=some 6) #[tt,tt,tt,tt,tt,ff,tt,ff,ff,ff] #[tt,tt,tt,ff,tt,ff,tt,tt,ff,ff] rfl rfl rfl rfl (two_of HT_.out (by kernel_rfl)) (by decide) (by decide) (fun K hK => ?_) (fun K hK => ?_)
           ·skip
            refine goes_ Try.func64 (by kernel_rfl) rfl #[.agg #[.int .i64 t210,.int .i64 t211,.int .i64 t212,.int .i64 t213]] (by rfl) rfl rfl (by (try simp only [List.map_toArray,List.map_cons,List.map_nil]);first|done|rfl|(simp only [List.length_drop,List.length_take];rfl)) ?_
            with_reducible refine (key_of.calls t210 t211 t212 t213 t214 t215 t216 t217 _ A4.out).mono ?_
            rintro e w15 ⟨rfl,hb⟩
            refine ⟨_,rfl,?_⟩
            have n0_:=Kb BK207 hb
            have n1_:=Kb BK208 hb
            have n2_:=Kb BK209 hb
            have n3_:=Kb BK222 hb
            have n4_:=Ak (below_step (by repeat (first|(with_reducible first|exact HB.out|apply bA|apply bN|apply bD|refine bS ?_ GE207.out|refine bS ?_ GE208.out|refine bS ?_ GE209.out|refine bS ?_ GE222.out)|exact HB.out)) hb)
            clear BK207 BK208 BK209 BK222 HB
            have BK207:=n0_;have BK208:=n1_;have BK209:=n2_;have BK222:=n3_;have HB:=n4_
            clear n0_ n1_ n2_ n3_ n4_
            (try clear hb)
            (try clear hb2)
            (try clear hk)
            (try clear hi)
            refine hK.out _ _ ⟨(kC BK207.out 0).trans rfl,(kC BK207.out 1).trans rfl,(kC BK207.out 2).trans rfl,(kC BK207.out 3).trans rfl,(kC BK208.out 0).trans rfl,(kC BK208.out 1).trans rfl,(kC BK208.out 2).trans rfl,(kC BK208.out 3).trans rfl⟩ (fun hHeld => ?_)
            clear hK K
            refine norm_ (a':=?_) ?_ ?_
            rotate_left
            ·show Act.put _ (some 11) _ = _
             simp only [Act.put,sA,sZ,sS,i64_w,i32_w]
             rfl
            exact norm_ (by first|(simp only [putAll,Act.put,sA,sZ,sS];done)|(simp only [putAll,Act.put,sA,sZ,sS];rfl)) (hJ2_3_6 (gb222) _ ⟨hHeld,BK207.out,BK208.out,BK209.out,BK222.out,GW222.out,GE222.out,NB207_222.out,NB222_207.out,NB208_222.out,NB222_208.out,NB209_222.out,NB222_209.out,(by repeat (first|(with_reducible first|exact HB.out|apply bA|apply bN|apply bD|refine bS ?_ GE207.out|refine bS ?_ GE208.out|refine bS ?_ GE209.out|refine bS ?_ GE222.out)|exact HB.out))⟩)
           ·skip
            refine box_step ?hg (N:=6) ?hd (cs:=#[.int .u64 0,.int .u64 0,.int .u64 0,.int .u64 0]) (t:=79) ?hr ?_;(case hd => rfl);(case hg => rfl);(case hr => first|(go_simp;done)|(go_simp;rfl))
            intro gb223 hg w15 hbox hb
            have n0_:=Kb BK207 hb
            have n1_:=Kb BK208 hb
            have n2_:=Kb BK209 hb
            have n3_:=Kb BK222 hb
            have n4_:=Ak (below_step (by repeat (first|(with_reducible first|exact HB.out|apply bA|apply bN|apply bD|refine bS ?_ GE207.out|refine bS ?_ GE208.out|refine bS ?_ GE209.out|refine bS ?_ GE222.out)|exact HB.out)) hb)
            have n5_:=Ak (hbox)
            have n6_:=Ak ((by rw [hg];exact (below_size (by repeat (first|(with_reducible first|exact HB.out|apply bA|apply bN|apply bD|refine bS ?_ GE207.out|refine bS ?_ GE208.out|refine bS ?_ GE209.out|refine bS ?_ GE222.out)|exact HB.out))) : w.heap.size ≤ gb223))
            have n7_:=Ak ((by rw [hg];exact (below_size (by repeat (first|(with_reducible first|exact HB.out|apply bA|apply bN|apply bD|refine bS ?_ GE207.out|refine bS ?_ GE208.out|refine bS ?_ GE209.out|refine bS ?_ GE222.out)|exact HB.out))) : w.heap.size ≤ gb223))
            have n8_:=Kl hg BK207
            have n9_:=Km hg BK207
            have n10_:=Kl hg BK208
            have n11_:=Km hg BK208
            have n12_:=Kl hg BK209
            have n13_:=Km hg BK209
            have n14_:=Kl hg BK222
            have n15_:=Km hg BK222
            clear BK207 BK208 BK209 BK222 HB
            have BK207:=n0_;have BK208:=n1_;have BK209:=n2_;have BK222:=n3_;have HB:=n4_;have BK223:=n5_;have GW223:=n6_;have GE223:=n7_;have NB207_223:=n8_;have NB223_207:=n9_;have NB208_223:=n10_;have NB223_208:=n11_;have NB209_223:=n12_;have NB223_209:=n13_;have NB222_223:=n14_;have NB223_222:=n15_
            clear n0_ n1_ n2_ n3_ n4_ n5_ n6_ n7_ n8_ n9_ n10_ n11_ n12_ n13_ n14_ n15_ hb hbox hg
            refine hK.out _ _ ⟨(kC BK207.out 0).trans rfl,(kC BK207.out 1).trans rfl,(kC BK207.out 2).trans rfl,(kC BK207.out 3).trans rfl,(kC BK208.out 0).trans rfl,(kC BK208.out 1).trans rfl,(kC BK208.out 2).trans rfl,(kC BK208.out 3).trans rfl⟩ (fun hHeld => ?_)
            clear hK K
            refine norm_ (a':=?_) ?_ ?_
            rotate_left
            ·show Act.put _ (some 6) _ = _
             simp only [Act.put,sA,sZ,sS,i64_w,i32_w]
             rfl
            exact norm_ (by first|(simp only [putAll,Act.put,sA,sZ,sS];done)|(simp only [putAll,Act.put,sA,sZ,sS];rfl)) (hJ2_6_7 (gb222,gb223) _ ⟨hHeld,BK207.out,BK208.out,BK209.out,BK222.out,BK223.out,GW222.out,GE222.out,NB207_222.out,NB222_207.out,NB208_222.out,NB222_208.out,NB209_222.out,NB222_209.out,NB223_222.out,NB222_223.out,GW223.out,GE223.out,NB207_223.out,NB223_207.out,NB208_223.out,NB223_208.out,NB209_223.out,NB223_209.out,(by repeat (first|(with_reducible first|exact HB.out|apply bA|apply bN|apply bD|refine bS ?_ GE207.out|refine bS ?_ GE208.out|refine bS ?_ GE209.out|refine bS ?_ GE222.out|refine bS ?_ GE223.out)|exact HB.out))⟩)
         ·skip
          rintro _ w14 ⟨hS_,h0_,h1_,h2_,h3_⟩
          have n0_ : Aside0 (w14.heap[gb207]? = some (.cells #[.int .i64 a0_0,.int .i64 a0_1,.int .i64 a0_2,.int .i64 a0_3] 35 (0,0))):=⟨h0_⟩
          have n1_ : Aside0 (w14.heap[gb208]? = some (.cells #[.int .i64 a1_0,.int .i64 a1_1,.int .i64 a1_2,.int .i64 a1_3] 35 (0,0))):=⟨h1_⟩
          have n2_ : Aside0 (w14.heap[gb209]? = some (.cells #[.int .u64 0,.int .u64 0,.int .u64 0,.int .u64 0] 79 (0,0))):=⟨h2_⟩
          have n3_ : Aside0 (Below w.heap.size w w14):=⟨h3_⟩
          clear BK207 BK208 BK209 HB h0_ h1_ h2_ h3_
          have BK207:=n0_;have BK208:=n1_;have BK209:=n2_;have HB:=n3_
          clear n0_ n1_ n2_ n3_
          have hHeld : w14.cell? ⟨gb207,0,none⟩ = some (.int .i64 a0_0)∧w14.cell? ⟨gb207,1,none⟩ = some (.int .i64 a0_1)∧w14.cell? ⟨gb207,2,none⟩ = some (.int .i64 a0_2)∧w14.cell? ⟨gb207,3,none⟩ = some (.int .i64 a0_3)∧w14.cell? ⟨gb208,0,none⟩ = some (.int .i64 a1_0)∧w14.cell? ⟨gb208,1,none⟩ = some (.int .i64 a1_1)∧w14.cell? ⟨gb208,2,none⟩ = some (.int .i64 a1_2)∧w14.cell? ⟨gb208,3,none⟩ = some (.int .i64 a1_3):=hS_
          refine norm_ (a':=?_) ?_ ?_
          rotate_left
          ·simp only [putAll,Act.put,sA,sZ,sS]
           rfl
          refine three_ (i:=5) (j:=6) (k:=7) (Ni:=some 13) (Nj:=some 5) (Nk:=some 6) #[tt,tt,tt,tt,tt,tt,ff,ff,ff,ff] #[tt,tt,tt,tt,tt,ff,tt,ff,ff,ff] #[tt,tt,tt,tt,tt,ff,ff,tt,ff,ff] rfl rfl rfl rfl rfl rfl (three_of HT_.out (by kernel_rfl)) (by decide) (by decide) (by decide) (fun K hK => ?_) (fun K hK => ?_) (fun K hK => ?_)
          ·skip
           refine goes_ Try.func64 (by kernel_rfl) rfl #[.agg #[.int .i64 a0_0,.int .i64 a0_1,.int .i64 a0_2,.int .i64 a0_3]] (by rfl) rfl rfl (by (try simp only [List.map_toArray,List.map_cons,List.map_nil]);first|done|rfl|(simp only [List.length_drop,List.length_take];rfl)) ?_
           with_reducible refine (key_of.calls a0_0 a0_1 a0_2 a0_3 t218 t219 t220 t221 _ A5.out).mono ?_
           rintro e w15 ⟨rfl,hb⟩
           refine ⟨_,rfl,?_⟩
           have n0_:=Kb BK207 hb
           have n1_:=Kb BK208 hb
           have n2_:=Kb BK209 hb
           have n3_:=Ak (below_step (by repeat (first|(with_reducible first|exact HB.out|apply bA|apply bN|apply bD|refine bS ?_ GE207.out|refine bS ?_ GE208.out|refine bS ?_ GE209.out)|exact HB.out)) hb)
           clear BK207 BK208 BK209 HB
           have BK207:=n0_;have BK208:=n1_;have BK209:=n2_;have HB:=n3_
           clear n0_ n1_ n2_ n3_
           (try clear hb)
           (try clear hb2)
           (try clear hk)
           (try clear hi)
           refine hK.out _ _ ⟨(kC BK207.out 0).trans rfl,(kC BK207.out 1).trans rfl,(kC BK207.out 2).trans rfl,(kC BK207.out 3).trans rfl,(kC BK208.out 0).trans rfl,(kC BK208.out 1).trans rfl,(kC BK208.out 2).trans rfl,(kC BK208.out 3).trans rfl⟩ (fun hHeld => ?_)
           clear hK K
           refine norm_ (a':=?_) ?_ ?_
           rotate_left
           ·show Act.put _ (some 13) _ = _
            simp only [Act.put,sA,sZ,sS,i64_w,i32_w]
            rfl
           exact norm_ (by first|(simp only [putAll,Act.put,sA,sZ,sS];done)|(simp only [putAll,Act.put,sA,sZ,sS];rfl)) (hJ2_3_5 () _ ⟨hHeld,BK207.out,BK208.out,BK209.out,(by repeat (first|(with_reducible first|exact HB.out|apply bA|apply bN|apply bD|refine bS ?_ GE207.out|refine bS ?_ GE208.out|refine bS ?_ GE209.out)|exact HB.out))⟩)
          ·skip
           refine box_step ?hg (N:=5) ?hd (cs:=#[.int .u64 0,.int .u64 0,.int .u64 0,.int .u64 0]) (t:=79) ?hr ?_;(case hd => rfl);(case hg => rfl);(case hr => first|(go_simp;done)|(go_simp;rfl))
           intro gb222 hg w15 hbox hb
           have n0_:=Kb BK207 hb
           have n1_:=Kb BK208 hb
           have n2_:=Kb BK209 hb
           have n3_:=Ak (below_step (by repeat (first|(with_reducible first|exact HB.out|apply bA|apply bN|apply bD|refine bS ?_ GE207.out|refine bS ?_ GE208.out|refine bS ?_ GE209.out)|exact HB.out)) hb)
           have n4_:=Ak (hbox)
           have n5_:=Ak ((by rw [hg];exact (below_size (by repeat (first|(with_reducible first|exact HB.out|apply bA|apply bN|apply bD|refine bS ?_ GE207.out|refine bS ?_ GE208.out|refine bS ?_ GE209.out)|exact HB.out))) : w.heap.size ≤ gb222))
           have n6_:=Ak ((by rw [hg];exact (below_size (by repeat (first|(with_reducible first|exact HB.out|apply bA|apply bN|apply bD|refine bS ?_ GE207.out|refine bS ?_ GE208.out|refine bS ?_ GE209.out)|exact HB.out))) : w.heap.size ≤ gb222))
           have n7_:=Kl hg BK207
           have n8_:=Km hg BK207
           have n9_:=Kl hg BK208
           have n10_:=Km hg BK208
           have n11_:=Kl hg BK209
           have n12_:=Km hg BK209
           clear BK207 BK208 BK209 HB
           have BK207:=n0_;have BK208:=n1_;have BK209:=n2_;have HB:=n3_;have BK222:=n4_;have GW222:=n5_;have GE222:=n6_;have NB207_222:=n7_;have NB222_207:=n8_;have NB208_222:=n9_;have NB222_208:=n10_;have NB209_222:=n11_;have NB222_209:=n12_
           clear n0_ n1_ n2_ n3_ n4_ n5_ n6_ n7_ n8_ n9_ n10_ n11_ n12_ hb hbox hg
           refine hK.out _ _ ⟨(kC BK207.out 0).trans rfl,(kC BK207.out 1).trans rfl,(kC BK207.out 2).trans rfl,(kC BK207.out 3).trans rfl,(kC BK208.out 0).trans rfl,(kC BK208.out 1).trans rfl,(kC BK208.out 2).trans rfl,(kC BK208.out 3).trans rfl⟩ (fun hHeld => ?_)
           clear hK K
           refine norm_ (a':=?_) ?_ ?_
           rotate_left
           ·show Act.put _ (some 5) _ = _
            simp only [Act.put,sA,sZ,sS,i64_w,i32_w]
            rfl
           exact norm_ (by first|(simp only [putAll,Act.put,sA,sZ,sS];done)|(simp only [putAll,Act.put,sA,sZ,sS];rfl)) (hJ2_3_6 (gb222) _ ⟨hHeld,BK207.out,BK208.out,BK209.out,BK222.out,GW222.out,GE222.out,NB207_222.out,NB222_207.out,NB208_222.out,NB222_208.out,NB209_222.out,NB222_209.out,(by repeat (first|(with_reducible first|exact HB.out|apply bA|apply bN|apply bD|refine bS ?_ GE207.out|refine bS ?_ GE208.out|refine bS ?_ GE209.out|refine bS ?_ GE222.out)|exact HB.out))⟩)
          ·skip
           refine box_step ?hg (N:=6) ?hd (cs:=#[.int .u64 0,.int .u64 0,.int .u64 0,.int .u64 0]) (t:=79) ?hr ?_;(case hd => rfl);(case hg => rfl);(case hr => first|(go_simp;done)|(go_simp;rfl))
           intro gb223 hg w15 hbox hb
           have n0_:=Kb BK207 hb
           have n1_:=Kb BK208 hb
           have n2_:=Kb BK209 hb
           have n3_:=Ak (below_step (by repeat (first|(with_reducible first|exact HB.out|apply bA|apply bN|apply bD|refine bS ?_ GE207.out|refine bS ?_ GE208.out|refine bS ?_ GE209.out)|exact HB.out)) hb)
           have n4_:=Ak (hbox)
           have n5_:=Ak ((by rw [hg];exact (below_size (by repeat (first|(with_reducible first|exact HB.out|apply bA|apply bN|apply bD|refine bS ?_ GE207.out|refine bS ?_ GE208.out|refine bS ?_ GE209.out)|exact HB.out))) : w.heap.size ≤ gb223))
           have n6_:=Ak ((by rw [hg];exact (below_size (by repeat (first|(with_reducible first|exact HB.out|apply bA|apply bN|apply bD|refine bS ?_ GE207.out|refine bS ?_ GE208.out|refine bS ?_ GE209.out)|exact HB.out))) : w.heap.size ≤ gb223))
           have n7_:=Kl hg BK207
           have n8_:=Km hg BK207
           have n9_:=Kl hg BK208
           have n10_:=Km hg BK208
           have n11_:=Kl hg BK209
           have n12_:=Km hg BK209
           clear BK207 BK208 BK209 HB
           have BK207:=n0_;have BK208:=n1_;have BK209:=n2_;have HB:=n3_;have BK223:=n4_;have GW223:=n5_;have GE223:=n6_;have NB207_223:=n7_;have NB223_207:=n8_;have NB208_223:=n9_;have NB223_208:=n10_;have NB209_223:=n11_;have NB223_209:=n12_
           clear n0_ n1_ n2_ n3_ n4_ n5_ n6_ n7_ n8_ n9_ n10_ n11_ n12_ hb hbox hg
           refine hK.out _ _ ⟨(kC BK207.out 0).trans rfl,(kC BK207.out 1).trans rfl,(kC BK207.out 2).trans rfl,(kC BK207.out 3).trans rfl,(kC BK208.out 0).trans rfl,(kC BK208.out 1).trans rfl,(kC BK208.out 2).trans rfl,(kC BK208.out 3).trans rfl⟩ (fun hHeld => ?_)
           clear hK K
           refine norm_ (a':=?_) ?_ ?_
           rotate_left
           ·show Act.put _ (some 6) _ = _
            simp only [Act.put,sA,sZ,sS,i64_w,i32_w]
            rfl
           exact norm_ (by first|(simp only [putAll,Act.put,sA,sZ,sS];done)|(simp only [putAll,Act.put,sA,sZ,sS];rfl)) (hJ2_3_7 (gb223) _ ⟨hHeld,BK207.out,BK208.out,BK209.out,BK223.out,GW223.out,GE223.out,NB207_223.out,NB223_207.out,NB208_223.out,NB223_208.out,NB209_223.out,NB223_209.out,(by repeat (first|(with_reducible first|exact HB.out|apply bA|apply bN|apply bD|refine bS ?_ GE207.out|refine bS ?_ GE208.out|refine bS ?_ GE209.out|refine bS ?_ GE223.out)|exact HB.out))⟩)
        ·skip
         rintro ⟨gb222,gb223⟩ w15 ⟨hS_,h0_,h1_,h2_,h3_,h4_,h5_,h6_,h7_,h8_,h9_,h10_,h11_,h12_,h13_,h14_,h15_,h16_,h17_,h18_,h19_,h20_,h21_,h22_,h23_⟩
         have n0_ : Aside0 (w15.heap[gb207]? = some (.cells #[.int .i64 a0_0,.int .i64 a0_1,.int .i64 a0_2,.int .i64 a0_3] 35 (0,0))):=⟨h0_⟩
         have n1_ : Aside0 (w15.heap[gb208]? = some (.cells #[.int .i64 a1_0,.int .i64 a1_1,.int .i64 a1_2,.int .i64 a1_3] 35 (0,0))):=⟨h1_⟩
         have n2_ : Aside0 (w15.heap[gb209]? = some (.cells #[.int .u64 0,.int .u64 0,.int .u64 0,.int .u64 0] 79 (0,0))):=⟨h2_⟩
         have n3_ : Aside0 (w15.heap[gb222]? = some (.cells #[.int .u64 0,.int .u64 0,.int .u64 0,.int .u64 0] 79 (0,0))):=⟨h3_⟩
         have n4_ : Aside0 (w15.heap[gb223]? = some (.cells #[.int .u64 0,.int .u64 0,.int .u64 0,.int .u64 0] 79 (0,0))):=⟨h4_⟩
         have n5_ : Aside0 (w.heap.size ≤ gb222):=⟨h5_⟩
         have n6_ : Aside0 (w.heap.size ≤ gb222):=⟨h6_⟩
         have n7_ : Aside0 (gb207 ≠ gb222):=⟨h7_⟩
         have n8_ : Aside0 (gb222 ≠ gb207):=⟨h8_⟩
         have n9_ : Aside0 (gb208 ≠ gb222):=⟨h9_⟩
         have n10_ : Aside0 (gb222 ≠ gb208):=⟨h10_⟩
         have n11_ : Aside0 (gb209 ≠ gb222):=⟨h11_⟩
         have n12_ : Aside0 (gb222 ≠ gb209):=⟨h12_⟩
         have n13_ : Aside0 (gb223 ≠ gb222):=⟨h13_⟩
         have n14_ : Aside0 (gb222 ≠ gb223):=⟨h14_⟩
         have n15_ : Aside0 (w.heap.size ≤ gb223):=⟨h15_⟩
         have n16_ : Aside0 (w.heap.size ≤ gb223):=⟨h16_⟩
         have n17_ : Aside0 (gb207 ≠ gb223):=⟨h17_⟩
         have n18_ : Aside0 (gb223 ≠ gb207):=⟨h18_⟩
         have n19_ : Aside0 (gb208 ≠ gb223):=⟨h19_⟩
         have n20_ : Aside0 (gb223 ≠ gb208):=⟨h20_⟩
         have n21_ : Aside0 (gb209 ≠ gb223):=⟨h21_⟩
         have n22_ : Aside0 (gb223 ≠ gb209):=⟨h22_⟩
         have n23_ : Aside0 (Below w.heap.size w w15):=⟨h23_⟩
         clear BK207 BK208 BK209 HB h0_ h1_ h2_ h3_ h4_ h5_ h6_ h7_ h8_ h9_ h10_ h11_ h12_ h13_ h14_ h15_ h16_ h17_ h18_ h19_ h20_ h21_ h22_ h23_
         have BK207:=n0_;have BK208:=n1_;have BK209:=n2_;have BK222:=n3_;have BK223:=n4_;have GW222:=n5_;have GE222:=n6_;have NB207_222:=n7_;have NB222_207:=n8_;have NB208_222:=n9_;have NB222_208:=n10_;have NB209_222:=n11_;have NB222_209:=n12_;have NB223_222:=n13_;have NB222_223:=n14_;have GW223:=n15_;have GE223:=n16_;have NB207_223:=n17_;have NB223_207:=n18_;have NB208_223:=n19_;have NB223_208:=n20_;have NB209_223:=n21_;have NB223_209:=n22_;have HB:=n23_
         clear n0_ n1_ n2_ n3_ n4_ n5_ n6_ n7_ n8_ n9_ n10_ n11_ n12_ n13_ n14_ n15_ n16_ n17_ n18_ n19_ n20_ n21_ n22_ n23_
         have hHeld : w15.cell? ⟨gb207,0,none⟩ = some (.int .i64 a0_0)∧w15.cell? ⟨gb207,1,none⟩ = some (.int .i64 a0_1)∧w15.cell? ⟨gb207,2,none⟩ = some (.int .i64 a0_2)∧w15.cell? ⟨gb207,3,none⟩ = some (.int .i64 a0_3)∧w15.cell? ⟨gb208,0,none⟩ = some (.int .i64 a1_0)∧w15.cell? ⟨gb208,1,none⟩ = some (.int .i64 a1_1)∧w15.cell? ⟨gb208,2,none⟩ = some (.int .i64 a1_2)∧w15.cell? ⟨gb208,3,none⟩ = some (.int .i64 a1_3):=hS_
         refine norm_ (a':=?_) ?_ ?_
         rotate_left
         ·simp only [putAll,Act.put,sA,sZ,sS]
          rfl
         refine one_ (i:=3) (N:=some 11) #[tt,tt,tt,tt,tt,ff,tt,tt,ff,ff] rfl rfl (one_of HT_.out (by kernel_rfl)) (by decide) (fun K hK => ?_)
         refine goes_ Try.func64 (by kernel_rfl) rfl #[.agg #[.int .i64 t210,.int .i64 t211,.int .i64 t212,.int .i64 t213]] (by rfl) rfl rfl (by (try simp only [List.map_toArray,List.map_cons,List.map_nil]);first|done|rfl|(simp only [List.length_drop,List.length_take];rfl)) ?_
         with_reducible refine (key_of.calls t210 t211 t212 t213 t214 t215 t216 t217 _ A4.out).mono ?_
         rintro e w16 ⟨rfl,hb⟩
         refine ⟨_,rfl,?_⟩
         have n0_:=Kb BK207 hb
         have n1_:=Kb BK208 hb
         have n2_:=Kb BK209 hb
         have n3_:=Kb BK222 hb
         have n4_:=Kb BK223 hb
         have n5_:=Ak (below_step (by repeat (first|(with_reducible first|exact HB.out|apply bA|apply bN|apply bD|refine bS ?_ GE207.out|refine bS ?_ GE208.out|refine bS ?_ GE209.out|refine bS ?_ GE222.out|refine bS ?_ GE223.out)|exact HB.out)) hb)
         clear BK207 BK208 BK209 BK222 BK223 HB
         have BK207:=n0_;have BK208:=n1_;have BK209:=n2_;have BK222:=n3_;have BK223:=n4_;have HB:=n5_
         clear n0_ n1_ n2_ n3_ n4_ n5_
         (try clear hb)
         (try clear hb2)
         (try clear hk)
         (try clear hi)
         refine hK.out _ _ ⟨(kC BK207.out 0).trans rfl,(kC BK207.out 1).trans rfl,(kC BK207.out 2).trans rfl,(kC BK207.out 3).trans rfl,(kC BK208.out 0).trans rfl,(kC BK208.out 1).trans rfl,(kC BK208.out 2).trans rfl,(kC BK208.out 3).trans rfl⟩ (fun hHeld => ?_)
         clear hK K
         refine norm_ (a':=?_) ?_ ?_
         rotate_left
         ·show Act.put _ (some 11) _ = _
          simp only [Act.put,sA,sZ,sS,i64_w,i32_w]
          rfl
         exact norm_ (by first|(simp only [putAll,Act.put,sA,sZ,sS];done)|(simp only [putAll,Act.put,sA,sZ,sS];rfl)) (hJ2_3_6_7 (gb222,gb223) _ ⟨hHeld,BK207.out,BK208.out,BK209.out,BK222.out,BK223.out,GW222.out,GE222.out,NB207_222.out,NB222_207.out,NB208_222.out,NB222_208.out,NB209_222.out,NB222_209.out,NB223_222.out,NB222_223.out,GW223.out,GE223.out,NB207_223.out,NB223_207.out,NB208_223.out,NB223_208.out,NB209_223.out,NB223_209.out,(by repeat (first|(with_reducible first|exact HB.out|apply bA|apply bN|apply bD|refine bS ?_ GE207.out|refine bS ?_ GE208.out|refine bS ?_ GE209.out|refine bS ?_ GE222.out|refine bS ?_ GE223.out)|exact HB.out))⟩)
       ·skip
        rintro gb223 w15 ⟨hS_,h0_,h1_,h2_,h3_,h4_,h5_,h6_,h7_,h8_,h9_,h10_,h11_,h12_⟩
        have n0_ : Aside0 (w15.heap[gb207]? = some (.cells #[.int .i64 a0_0,.int .i64 a0_1,.int .i64 a0_2,.int .i64 a0_3] 35 (0,0))):=⟨h0_⟩
        have n1_ : Aside0 (w15.heap[gb208]? = some (.cells #[.int .i64 a1_0,.int .i64 a1_1,.int .i64 a1_2,.int .i64 a1_3] 35 (0,0))):=⟨h1_⟩
        have n2_ : Aside0 (w15.heap[gb209]? = some (.cells #[.int .u64 0,.int .u64 0,.int .u64 0,.int .u64 0] 79 (0,0))):=⟨h2_⟩
        have n3_ : Aside0 (w15.heap[gb223]? = some (.cells #[.int .u64 0,.int .u64 0,.int .u64 0,.int .u64 0] 79 (0,0))):=⟨h3_⟩
        have n4_ : Aside0 (w.heap.size ≤ gb223):=⟨h4_⟩
        have n5_ : Aside0 (w.heap.size ≤ gb223):=⟨h5_⟩
        have n6_ : Aside0 (gb207 ≠ gb223):=⟨h6_⟩
        have n7_ : Aside0 (gb223 ≠ gb207):=⟨h7_⟩
        have n8_ : Aside0 (gb208 ≠ gb223):=⟨h8_⟩
        have n9_ : Aside0 (gb223 ≠ gb208):=⟨h9_⟩
        have n10_ : Aside0 (gb209 ≠ gb223):=⟨h10_⟩
        have n11_ : Aside0 (gb223 ≠ gb209):=⟨h11_⟩
        have n12_ : Aside0 (Below w.heap.size w w15):=⟨h12_⟩
        clear BK207 BK208 BK209 HB h0_ h1_ h2_ h3_ h4_ h5_ h6_ h7_ h8_ h9_ h10_ h11_ h12_
        have BK207:=n0_;have BK208:=n1_;have BK209:=n2_;have BK223:=n3_;have GW223:=n4_;have GE223:=n5_;have NB207_223:=n6_;have NB223_207:=n7_;have NB208_223:=n8_;have NB223_208:=n9_;have NB209_223:=n10_;have NB223_209:=n11_;have HB:=n12_
        clear n0_ n1_ n2_ n3_ n4_ n5_ n6_ n7_ n8_ n9_ n10_ n11_ n12_
        have hHeld : w15.cell? ⟨gb207,0,none⟩ = some (.int .i64 a0_0)∧w15.cell? ⟨gb207,1,none⟩ = some (.int .i64 a0_1)∧w15.cell? ⟨gb207,2,none⟩ = some (.int .i64 a0_2)∧w15.cell? ⟨gb207,3,none⟩ = some (.int .i64 a0_3)∧w15.cell? ⟨gb208,0,none⟩ = some (.int .i64 a1_0)∧w15.cell? ⟨gb208,1,none⟩ = some (.int .i64 a1_1)∧w15.cell? ⟨gb208,2,none⟩ = some (.int .i64 a1_2)∧w15.cell? ⟨gb208,3,none⟩ = some (.int .i64 a1_3):=hS_
        refine norm_ (a':=?_) ?_ ?_
        rotate_left
        ·simp only [putAll,Act.put,sA,sZ,sS]
         rfl
        refine two_ (i:=5) (j:=6) (Ni:=some 13) (Nj:=some 5) #[tt,tt,tt,tt,tt,tt,ff,tt,ff,ff] #[tt,tt,tt,tt,tt,ff,tt,tt,ff,ff] rfl rfl rfl rfl (two_of HT_.out (by kernel_rfl)) (by decide) (by decide) (fun K hK => ?_) (fun K hK => ?_)
        ·skip
         refine goes_ Try.func64 (by kernel_rfl) rfl #[.agg #[.int .i64 a0_0,.int .i64 a0_1,.int .i64 a0_2,.int .i64 a0_3]] (by rfl) rfl rfl (by (try simp only [List.map_toArray,List.map_cons,List.map_nil]);first|done|rfl|(simp only [List.length_drop,List.length_take];rfl)) ?_
         with_reducible refine (key_of.calls a0_0 a0_1 a0_2 a0_3 t218 t219 t220 t221 _ A5.out).mono ?_
         rintro e w16 ⟨rfl,hb⟩
         refine ⟨_,rfl,?_⟩
         have n0_:=Kb BK207 hb
         have n1_:=Kb BK208 hb
         have n2_:=Kb BK209 hb
         have n3_:=Kb BK223 hb
         have n4_:=Ak (below_step (by repeat (first|(with_reducible first|exact HB.out|apply bA|apply bN|apply bD|refine bS ?_ GE207.out|refine bS ?_ GE208.out|refine bS ?_ GE209.out|refine bS ?_ GE223.out)|exact HB.out)) hb)
         clear BK207 BK208 BK209 BK223 HB
         have BK207:=n0_;have BK208:=n1_;have BK209:=n2_;have BK223:=n3_;have HB:=n4_
         clear n0_ n1_ n2_ n3_ n4_
         (try clear hb)
         (try clear hb2)
         (try clear hk)
         (try clear hi)
         refine hK.out _ _ ⟨(kC BK207.out 0).trans rfl,(kC BK207.out 1).trans rfl,(kC BK207.out 2).trans rfl,(kC BK207.out 3).trans rfl,(kC BK208.out 0).trans rfl,(kC BK208.out 1).trans rfl,(kC BK208.out 2).trans rfl,(kC BK208.out 3).trans rfl⟩ (fun hHeld => ?_)
         clear hK K
         refine norm_ (a':=?_) ?_ ?_
         rotate_left
         ·show Act.put _ (some 13) _ = _
          simp only [Act.put,sA,sZ,sS,i64_w,i32_w]
          rfl
         exact norm_ (by first|(simp only [putAll,Act.put,sA,sZ,sS];done)|(simp only [putAll,Act.put,sA,sZ,sS];rfl)) (hJ2_3_5_7 (gb223) _ ⟨hHeld,BK207.out,BK208.out,BK209.out,BK223.out,GW223.out,GE223.out,NB207_223.out,NB223_207.out,NB208_223.out,NB223_208.out,NB209_223.out,NB223_209.out,(by repeat (first|(with_reducible first|exact HB.out|apply bA|apply bN|apply bD|refine bS ?_ GE207.out|refine bS ?_ GE208.out|refine bS ?_ GE209.out|refine bS ?_ GE223.out)|exact HB.out))⟩)
        ·skip
         refine box_step ?hg (N:=5) ?hd (cs:=#[.int .u64 0,.int .u64 0,.int .u64 0,.int .u64 0]) (t:=79) ?hr ?_;(case hd => rfl);(case hg => rfl);(case hr => first|(go_simp;done)|(go_simp;rfl))
         intro gb222 hg w16 hbox hb
         have n0_:=Kb BK207 hb
         have n1_:=Kb BK208 hb
         have n2_:=Kb BK209 hb
         have n3_:=Kb BK223 hb
         have n4_:=Ak (below_step (by repeat (first|(with_reducible first|exact HB.out|apply bA|apply bN|apply bD|refine bS ?_ GE207.out|refine bS ?_ GE208.out|refine bS ?_ GE209.out|refine bS ?_ GE223.out)|exact HB.out)) hb)
         have n5_:=Ak (hbox)
         have n6_:=Ak ((by rw [hg];exact (below_size (by repeat (first|(with_reducible first|exact HB.out|apply bA|apply bN|apply bD|refine bS ?_ GE207.out|refine bS ?_ GE208.out|refine bS ?_ GE209.out|refine bS ?_ GE223.out)|exact HB.out))) : w.heap.size ≤ gb222))
         have n7_:=Ak ((by rw [hg];exact (below_size (by repeat (first|(with_reducible first|exact HB.out|apply bA|apply bN|apply bD|refine bS ?_ GE207.out|refine bS ?_ GE208.out|refine bS ?_ GE209.out|refine bS ?_ GE223.out)|exact HB.out))) : w.heap.size ≤ gb222))
         have n8_:=Kl hg BK207
         have n9_:=Km hg BK207
         have n10_:=Kl hg BK208
         have n11_:=Km hg BK208
         have n12_:=Kl hg BK209
         have n13_:=Km hg BK209
         have n14_:=Kl hg BK223
         have n15_:=Km hg BK223
         clear BK207 BK208 BK209 BK223 HB
         have BK207:=n0_;have BK208:=n1_;have BK209:=n2_;have BK223:=n3_;have HB:=n4_;have BK222:=n5_;have GW222:=n6_;have GE222:=n7_;have NB207_222:=n8_;have NB222_207:=n9_;have NB208_222:=n10_;have NB222_208:=n11_;have NB209_222:=n12_;have NB222_209:=n13_;have NB223_222:=n14_;have NB222_223:=n15_
         clear n0_ n1_ n2_ n3_ n4_ n5_ n6_ n7_ n8_ n9_ n10_ n11_ n12_ n13_ n14_ n15_ hb hbox hg
         refine hK.out _ _ ⟨(kC BK207.out 0).trans rfl,(kC BK207.out 1).trans rfl,(kC BK207.out 2).trans rfl,(kC BK207.out 3).trans rfl,(kC BK208.out 0).trans rfl,(kC BK208.out 1).trans rfl,(kC BK208.out 2).trans rfl,(kC BK208.out 3).trans rfl⟩ (fun hHeld => ?_)
         clear hK K
         refine norm_ (a':=?_) ?_ ?_
         rotate_left
         ·show Act.put _ (some 5) _ = _
          simp only [Act.put,sA,sZ,sS,i64_w,i32_w]
          rfl
         exact norm_ (by first|(simp only [putAll,Act.put,sA,sZ,sS];done)|(simp only [putAll,Act.put,sA,sZ,sS];rfl)) (hJ2_3_6_7 (gb222,gb223) _ ⟨hHeld,BK207.out,BK208.out,BK209.out,BK222.out,BK223.out,GW222.out,GE222.out,NB207_222.out,NB222_207.out,NB208_222.out,NB222_208.out,NB209_222.out,NB222_209.out,NB223_222.out,NB222_223.out,GW223.out,GE223.out,NB207_223.out,NB223_207.out,NB208_223.out,NB223_208.out,NB209_223.out,NB223_209.out,(by repeat (first|(with_reducible first|exact HB.out|apply bA|apply bN|apply bD|refine bS ?_ GE207.out|refine bS ?_ GE208.out|refine bS ?_ GE209.out|refine bS ?_ GE223.out|refine bS ?_ GE222.out)|exact HB.out))⟩)
      ·skip
       rintro gb222 w15 ⟨hS_,h0_,h1_,h2_,h3_,h4_,h5_,h6_,h7_,h8_,h9_,h10_,h11_,h12_⟩
       have n0_ : Aside0 (w15.heap[gb207]? = some (.cells #[.int .i64 a0_0,.int .i64 a0_1,.int .i64 a0_2,.int .i64 a0_3] 35 (0,0))):=⟨h0_⟩
       have n1_ : Aside0 (w15.heap[gb208]? = some (.cells #[.int .i64 a1_0,.int .i64 a1_1,.int .i64 a1_2,.int .i64 a1_3] 35 (0,0))):=⟨h1_⟩
       have n2_ : Aside0 (w15.heap[gb209]? = some (.cells #[.int .u64 0,.int .u64 0,.int .u64 0,.int .u64 0] 79 (0,0))):=⟨h2_⟩
       have n3_ : Aside0 (w15.heap[gb222]? = some (.cells #[.int .u64 0,.int .u64 0,.int .u64 0,.int .u64 0] 79 (0,0))):=⟨h3_⟩
       have n4_ : Aside0 (w.heap.size ≤ gb222):=⟨h4_⟩
       have n5_ : Aside0 (w.heap.size ≤ gb222):=⟨h5_⟩
       have n6_ : Aside0 (gb207 ≠ gb222):=⟨h6_⟩
       have n7_ : Aside0 (gb222 ≠ gb207):=⟨h7_⟩
       have n8_ : Aside0 (gb208 ≠ gb222):=⟨h8_⟩
       have n9_ : Aside0 (gb222 ≠ gb208):=⟨h9_⟩
       have n10_ : Aside0 (gb209 ≠ gb222):=⟨h10_⟩
       have n11_ : Aside0 (gb222 ≠ gb209):=⟨h11_⟩
       have n12_ : Aside0 (Below w.heap.size w w15):=⟨h12_⟩
       clear BK207 BK208 BK209 HB h0_ h1_ h2_ h3_ h4_ h5_ h6_ h7_ h8_ h9_ h10_ h11_ h12_
       have BK207:=n0_;have BK208:=n1_;have BK209:=n2_;have BK222:=n3_;have GW222:=n4_;have GE222:=n5_;have NB207_222:=n6_;have NB222_207:=n7_;have NB208_222:=n8_;have NB222_208:=n9_;have NB209_222:=n10_;have NB222_209:=n11_;have HB:=n12_
       clear n0_ n1_ n2_ n3_ n4_ n5_ n6_ n7_ n8_ n9_ n10_ n11_ n12_
       have hHeld : w15.cell? ⟨gb207,0,none⟩ = some (.int .i64 a0_0)∧w15.cell? ⟨gb207,1,none⟩ = some (.int .i64 a0_1)∧w15.cell? ⟨gb207,2,none⟩ = some (.int .i64 a0_2)∧w15.cell? ⟨gb207,3,none⟩ = some (.int .i64 a0_3)∧w15.cell? ⟨gb208,0,none⟩ = some (.int .i64 a1_0)∧w15.cell? ⟨gb208,1,none⟩ = some (.int .i64 a1_1)∧w15.cell? ⟨gb208,2,none⟩ = some (.int .i64 a1_2)∧w15.cell? ⟨gb208,3,none⟩ = some (.int .i64 a1_3):=hS_
       refine norm_ (a':=?_) ?_ ?_
       rotate_left
       ·simp only [putAll,Act.put,sA,sZ,sS]
        rfl
       refine two_ (i:=5) (j:=7) (Ni:=some 13) (Nj:=some 6) #[tt,tt,tt,tt,tt,tt,tt,ff,ff,ff] #[tt,tt,tt,tt,tt,ff,tt,tt,ff,ff] rfl rfl rfl rfl (two_of HT_.out (by kernel_rfl)) (by decide) (by decide) (fun K hK => ?_) (fun K hK => ?_)
       ·skip
        refine goes_ Try.func64 (by kernel_rfl) rfl #[.agg #[.int .i64 a0_0,.int .i64 a0_1,.int .i64 a0_2,.int .i64 a0_3]] (by rfl) rfl rfl (by (try simp only [List.map_toArray,List.map_cons,List.map_nil]);first|done|rfl|(simp only [List.length_drop,List.length_take];rfl)) ?_
        with_reducible refine (key_of.calls a0_0 a0_1 a0_2 a0_3 t218 t219 t220 t221 _ A5.out).mono ?_
        rintro e w16 ⟨rfl,hb⟩
        refine ⟨_,rfl,?_⟩
        have n0_:=Kb BK207 hb
        have n1_:=Kb BK208 hb
        have n2_:=Kb BK209 hb
        have n3_:=Kb BK222 hb
        have n4_:=Ak (below_step (by repeat (first|(with_reducible first|exact HB.out|apply bA|apply bN|apply bD|refine bS ?_ GE207.out|refine bS ?_ GE208.out|refine bS ?_ GE209.out|refine bS ?_ GE222.out)|exact HB.out)) hb)
        clear BK207 BK208 BK209 BK222 HB
        have BK207:=n0_;have BK208:=n1_;have BK209:=n2_;have BK222:=n3_;have HB:=n4_
        clear n0_ n1_ n2_ n3_ n4_
        (try clear hb)
        (try clear hb2)
        (try clear hk)
        (try clear hi)
        refine hK.out _ _ ⟨(kC BK207.out 0).trans rfl,(kC BK207.out 1).trans rfl,(kC BK207.out 2).trans rfl,(kC BK207.out 3).trans rfl,(kC BK208.out 0).trans rfl,(kC BK208.out 1).trans rfl,(kC BK208.out 2).trans rfl,(kC BK208.out 3).trans rfl⟩ (fun hHeld => ?_)
        clear hK K
        refine norm_ (a':=?_) ?_ ?_
        rotate_left
        ·show Act.put _ (some 13) _ = _
         simp only [Act.put,sA,sZ,sS,i64_w,i32_w]
         rfl
        exact norm_ (by first|(simp only [putAll,Act.put,sA,sZ,sS];done)|(simp only [putAll,Act.put,sA,sZ,sS];rfl)) (hJ2_3_5_6 (gb222) _ ⟨hHeld,BK207.out,BK208.out,BK209.out,BK222.out,GW222.out,GE222.out,NB207_222.out,NB222_207.out,NB208_222.out,NB222_208.out,NB209_222.out,NB222_209.out,(by repeat (first|(with_reducible first|exact HB.out|apply bA|apply bN|apply bD|refine bS ?_ GE207.out|refine bS ?_ GE208.out|refine bS ?_ GE209.out|refine bS ?_ GE222.out)|exact HB.out))⟩)
       ·skip
        refine box_step ?hg (N:=6) ?hd (cs:=#[.int .u64 0,.int .u64 0,.int .u64 0,.int .u64 0]) (t:=79) ?hr ?_;(case hd => rfl);(case hg => rfl);(case hr => first|(go_simp;done)|(go_simp;rfl))
        intro gb223 hg w16 hbox hb
        have n0_:=Kb BK207 hb
        have n1_:=Kb BK208 hb
        have n2_:=Kb BK209 hb
        have n3_:=Kb BK222 hb
        have n4_:=Ak (below_step (by repeat (first|(with_reducible first|exact HB.out|apply bA|apply bN|apply bD|refine bS ?_ GE207.out|refine bS ?_ GE208.out|refine bS ?_ GE209.out|refine bS ?_ GE222.out)|exact HB.out)) hb)
        have n5_:=Ak (hbox)
        have n6_:=Ak ((by rw [hg];exact (below_size (by repeat (first|(with_reducible first|exact HB.out|apply bA|apply bN|apply bD|refine bS ?_ GE207.out|refine bS ?_ GE208.out|refine bS ?_ GE209.out|refine bS ?_ GE222.out)|exact HB.out))) : w.heap.size ≤ gb223))
        have n7_:=Ak ((by rw [hg];exact (below_size (by repeat (first|(with_reducible first|exact HB.out|apply bA|apply bN|apply bD|refine bS ?_ GE207.out|refine bS ?_ GE208.out|refine bS ?_ GE209.out|refine bS ?_ GE222.out)|exact HB.out))) : w.heap.size ≤ gb223))
        have n8_:=Kl hg BK207
        have n9_:=Km hg BK207
        have n10_:=Kl hg BK208
        have n11_:=Km hg BK208
        have n12_:=Kl hg BK209
        have n13_:=Km hg BK209
        have n14_:=Kl hg BK222
        have n15_:=Km hg BK222
        clear BK207 BK208 BK209 BK222 HB
        have BK207:=n0_;have BK208:=n1_;have BK209:=n2_;have BK222:=n3_;have HB:=n4_;have BK223:=n5_;have GW223:=n6_;have GE223:=n7_;have NB207_223:=n8_;have NB223_207:=n9_;have NB208_223:=n10_;have NB223_208:=n11_;have NB209_223:=n12_;have NB223_209:=n13_;have NB222_223:=n14_;have NB223_222:=n15_
        clear n0_ n1_ n2_ n3_ n4_ n5_ n6_ n7_ n8_ n9_ n10_ n11_ n12_ n13_ n14_ n15_ hb hbox hg
        refine hK.out _ _ ⟨(kC BK207.out 0).trans rfl,(kC BK207.out 1).trans rfl,(kC BK207.out 2).trans rfl,(kC BK207.out 3).trans rfl,(kC BK208.out 0).trans rfl,(kC BK208.out 1).trans rfl,(kC BK208.out 2).trans rfl,(kC BK208.out 3).trans rfl⟩ (fun hHeld => ?_)
        clear hK K
        refine norm_ (a':=?_) ?_ ?_
        rotate_left
        ·show Act.put _ (some 6) _ = _
         simp only [Act.put,sA,sZ,sS,i64_w,i32_w]
         rfl
        exact norm_ (by first|(simp only [putAll,Act.put,sA,sZ,sS];done)|(simp only [putAll,Act.put,sA,sZ,sS];rfl)) (hJ2_3_6_7 (gb222,gb223) _ ⟨hHeld,BK207.out,BK208.out,BK209.out,BK222.out,BK223.out,GW222.out,GE222.out,NB207_222.out,NB222_207.out,NB208_222.out,NB222_208.out,NB209_222.out,NB222_209.out,NB223_222.out,NB222_223.out,GW223.out,GE223.out,NB207_223.out,NB223_207.out,NB208_223.out,NB223_208.out,NB209_223.out,NB223_209.out,(by repeat (first|(with_reducible first|exact HB.out|apply bA|apply bN|apply bD|refine bS ?_ GE207.out|refine bS ?_ GE208.out|refine bS ?_ GE209.out|refine bS ?_ GE222.out|refine bS ?_ GE223.out)|exact HB.out))⟩)
     ·skip
      rintro _ w15 ⟨hS_,h0_,h1_,h2_,h3_⟩
      have n0_ : Aside0 (w15.heap[gb207]? = some (.cells #[.int .i64 a0_0,.int .i64 a0_1,.int .i64 a0_2,.int .i64 a0_3] 35 (0,0))):=⟨h0_⟩
      have n1_ : Aside0 (w15.heap[gb208]? = some (.cells #[.int .i64 a1_0,.int .i64 a1_1,.int .i64 a1_2,.int .i64 a1_3] 35 (0,0))):=⟨h1_⟩
      have n2_ : Aside0 (w15.heap[gb209]? = some (.cells #[.int .u64 0,.int .u64 0,.int .u64 0,.int .u64 0] 79 (0,0))):=⟨h2_⟩
      have n3_ : Aside0 (Below w.heap.size w w15):=⟨h3_⟩
      clear BK207 BK208 BK209 HB h0_ h1_ h2_ h3_
      have BK207:=n0_;have BK208:=n1_;have BK209:=n2_;have HB:=n3_
      clear n0_ n1_ n2_ n3_
      have hHeld : w15.cell? ⟨gb207,0,none⟩ = some (.int .i64 a0_0)∧w15.cell? ⟨gb207,1,none⟩ = some (.int .i64 a0_1)∧w15.cell? ⟨gb207,2,none⟩ = some (.int .i64 a0_2)∧w15.cell? ⟨gb207,3,none⟩ = some (.int .i64 a0_3)∧w15.cell? ⟨gb208,0,none⟩ = some (.int .i64 a1_0)∧w15.cell? ⟨gb208,1,none⟩ = some (.int .i64 a1_1)∧w15.cell? ⟨gb208,2,none⟩ = some (.int .i64 a1_2)∧w15.cell? ⟨gb208,3,none⟩ = some (.int .i64 a1_3):=hS_
      refine norm_ (a':=?_) ?_ ?_
      rotate_left
      ·simp only [putAll,Act.put,sA,sZ,sS]
       rfl
      refine two_ (i:=6) (j:=7) (Ni:=some 5) (Nj:=some 6) #[tt,tt,tt,tt,tt,tt,tt,ff,ff,ff] #[tt,tt,tt,tt,tt,tt,ff,tt,ff,ff] rfl rfl rfl rfl (two_of HT_.out (by kernel_rfl)) (by decide) (by decide) (fun K hK => ?_) (fun K hK => ?_)
      ·skip
       refine box_step ?hg (N:=5) ?hd (cs:=#[.int .u64 0,.int .u64 0,.int .u64 0,.int .u64 0]) (t:=79) ?hr ?_;(case hd => rfl);(case hg => rfl);(case hr => first|(go_simp;done)|(go_simp;rfl))
       intro gb222 hg w16 hbox hb
       have n0_:=Kb BK207 hb
       have n1_:=Kb BK208 hb
       have n2_:=Kb BK209 hb
       have n3_:=Ak (below_step (by repeat (first|(with_reducible first|exact HB.out|apply bA|apply bN|apply bD|refine bS ?_ GE207.out|refine bS ?_ GE208.out|refine bS ?_ GE209.out)|exact HB.out)) hb)
       have n4_:=Ak (hbox)
       have n5_:=Ak ((by rw [hg];exact (below_size (by repeat (first|(with_reducible first|exact HB.out|apply bA|apply bN|apply bD|refine bS ?_ GE207.out|refine bS ?_ GE208.out|refine bS ?_ GE209.out)|exact HB.out))) : w.heap.size ≤ gb222))
       have n6_:=Ak ((by rw [hg];exact (below_size (by repeat (first|(with_reducible first|exact HB.out|apply bA|apply bN|apply bD|refine bS ?_ GE207.out|refine bS ?_ GE208.out|refine bS ?_ GE209.out)|exact HB.out))) : w.heap.size ≤ gb222))
       have n7_:=Kl hg BK207
       have n8_:=Km hg BK207
       have n9_:=Kl hg BK208
       have n10_:=Km hg BK208
       have n11_:=Kl hg BK209
       have n12_:=Km hg BK209
       clear BK207 BK208 BK209 HB
       have BK207:=n0_;have BK208:=n1_;have BK209:=n2_;have HB:=n3_;have BK222:=n4_;have GW222:=n5_;have GE222:=n6_;have NB207_222:=n7_;have NB222_207:=n8_;have NB208_222:=n9_;have NB222_208:=n10_;have NB209_222:=n11_;have NB222_209:=n12_
       clear n0_ n1_ n2_ n3_ n4_ n5_ n6_ n7_ n8_ n9_ n10_ n11_ n12_ hb hbox hg
       refine hK.out _ _ ⟨(kC BK207.out 0).trans rfl,(kC BK207.out 1).trans rfl,(kC BK207.out 2).trans rfl,(kC BK207.out 3).trans rfl,(kC BK208.out 0).trans rfl,(kC BK208.out 1).trans rfl,(kC BK208.out 2).trans rfl,(kC BK208.out 3).trans rfl⟩ (fun hHeld => ?_)
       clear hK K
       refine norm_ (a':=?_) ?_ ?_
       rotate_left
       ·show Act.put _ (some 5) _ = _
        simp only [Act.put,sA,sZ,sS,i64_w,i32_w]
        rfl
       exact norm_ (by first|(simp only [putAll,Act.put,sA,sZ,sS];done)|(simp only [putAll,Act.put,sA,sZ,sS];rfl)) (hJ2_3_5_6 (gb222) _ ⟨hHeld,BK207.out,BK208.out,BK209.out,BK222.out,GW222.out,GE222.out,NB207_222.out,NB222_207.out,NB208_222.out,NB222_208.out,NB209_222.out,NB222_209.out,(by repeat (first|(with_reducible first|exact HB.out|apply bA|apply bN|apply bD|refine bS ?_ GE207.out|refine bS ?_ GE208.out|refine bS ?_ GE209.out|refine bS ?_ GE222.out)|exact HB.out))⟩)
      ·skip
       refine box_step ?hg (N:=6) ?hd (cs:=#[.int .u64 0,.int .u64 0,.int .u64 0,.int .u64 0]) (t:=79) ?hr ?_;(case hd => rfl);(case hg => rfl);(case hr => first|(go_simp;done)|(go_simp;rfl))
       intro gb223 hg w16 hbox hb
       have n0_:=Kb BK207 hb
       have n1_:=Kb BK208 hb
       have n2_:=Kb BK209 hb
       have n3_:=Ak (below_step (by repeat (first|(with_reducible first|exact HB.out|apply bA|apply bN|apply bD|refine bS ?_ GE207.out|refine bS ?_ GE208.out|refine bS ?_ GE209.out)|exact HB.out)) hb)
       have n4_:=Ak (hbox)
       have n5_:=Ak ((by rw [hg];exact (below_size (by repeat (first|(with_reducible first|exact HB.out|apply bA|apply bN|apply bD|refine bS ?_ GE207.out|refine bS ?_ GE208.out|refine bS ?_ GE209.out)|exact HB.out))) : w.heap.size ≤ gb223))
       have n6_:=Ak ((by rw [hg];exact (below_size (by repeat (first|(with_reducible first|exact HB.out|apply bA|apply bN|apply bD|refine bS ?_ GE207.out|refine bS ?_ GE208.out|refine bS ?_ GE209.out)|exact HB.out))) : w.heap.size ≤ gb223))
       have n7_:=Kl hg BK207
       have n8_:=Km hg BK207
       have n9_:=Kl hg BK208
       have n10_:=Km hg BK208
       have n11_:=Kl hg BK209
       have n12_:=Km hg BK209
       clear BK207 BK208 BK209 HB
       have BK207:=n0_;have BK208:=n1_;have BK209:=n2_;have HB:=n3_;have BK223:=n4_;have GW223:=n5_;have GE223:=n6_;have NB207_223:=n7_;have NB223_207:=n8_;have NB208_223:=n9_;have NB223_208:=n10_;have NB209_223:=n11_;have NB223_209:=n12_
       clear n0_ n1_ n2_ n3_ n4_ n5_ n6_ n7_ n8_ n9_ n10_ n11_ n12_ hb hbox hg
       refine hK.out _ _ ⟨(kC BK207.out 0).trans rfl,(kC BK207.out 1).trans rfl,(kC BK207.out 2).trans rfl,(kC BK207.out 3).trans rfl,(kC BK208.out 0).trans rfl,(kC BK208.out 1).trans rfl,(kC BK208.out 2).trans rfl,(kC BK208.out 3).trans rfl⟩ (fun hHeld => ?_)
       clear hK K
       refine norm_ (a':=?_) ?_ ?_
       rotate_left
       ·show Act.put _ (some 6) _ = _
        simp only [Act.put,sA,sZ,sS,i64_w,i32_w]
        rfl
       exact norm_ (by first|(simp only [putAll,Act.put,sA,sZ,sS];done)|(simp only [putAll,Act.put,sA,sZ,sS];rfl)) (hJ2_3_5_7 (gb223) _ ⟨hHeld,BK207.out,BK208.out,BK209.out,BK223.out,GW223.out,GE223.out,NB207_223.out,NB223_207.out,NB208_223.out,NB223_208.out,NB209_223.out,NB223_209.out,(by repeat (first|(with_reducible first|exact HB.out|apply bA|apply bN|apply bD|refine bS ?_ GE207.out|refine bS ?_ GE208.out|refine bS ?_ GE209.out|refine bS ?_ GE223.out)|exact HB.out))⟩)
    ·skip
     rintro ⟨gb222,gb223⟩ w16 ⟨hS_,h0_,h1_,h2_,h3_,h4_,h5_,h6_,h7_,h8_,h9_,h10_,h11_,h12_,h13_,h14_,h15_,h16_,h17_,h18_,h19_,h20_,h21_,h22_,h23_⟩
     have n0_ : Aside0 (w16.heap[gb207]? = some (.cells #[.int .i64 a0_0,.int .i64 a0_1,.int .i64 a0_2,.int .i64 a0_3] 35 (0,0))):=⟨h0_⟩
     have n1_ : Aside0 (w16.heap[gb208]? = some (.cells #[.int .i64 a1_0,.int .i64 a1_1,.int .i64 a1_2,.int .i64 a1_3] 35 (0,0))):=⟨h1_⟩
     have n2_ : Aside0 (w16.heap[gb209]? = some (.cells #[.int .u64 0,.int .u64 0,.int .u64 0,.int .u64 0] 79 (0,0))):=⟨h2_⟩
     have n3_ : Aside0 (w16.heap[gb222]? = some (.cells #[.int .u64 0,.int .u64 0,.int .u64 0,.int .u64 0] 79 (0,0))):=⟨h3_⟩
     have n4_ : Aside0 (w16.heap[gb223]? = some (.cells #[.int .u64 0,.int .u64 0,.int .u64 0,.int .u64 0] 79 (0,0))):=⟨h4_⟩
     have n5_ : Aside0 (w.heap.size ≤ gb222):=⟨h5_⟩
     have n6_ : Aside0 (w.heap.size ≤ gb222):=⟨h6_⟩
     have n7_ : Aside0 (gb207 ≠ gb222):=⟨h7_⟩
     have n8_ : Aside0 (gb222 ≠ gb207):=⟨h8_⟩
     have n9_ : Aside0 (gb208 ≠ gb222):=⟨h9_⟩
     have n10_ : Aside0 (gb222 ≠ gb208):=⟨h10_⟩
     have n11_ : Aside0 (gb209 ≠ gb222):=⟨h11_⟩
     have n12_ : Aside0 (gb222 ≠ gb209):=⟨h12_⟩
     have n13_ : Aside0 (gb223 ≠ gb222):=⟨h13_⟩
     have n14_ : Aside0 (gb222 ≠ gb223):=⟨h14_⟩
     have n15_ : Aside0 (w.heap.size ≤ gb223):=⟨h15_⟩
     have n16_ : Aside0 (w.heap.size ≤ gb223):=⟨h16_⟩
     have n17_ : Aside0 (gb207 ≠ gb223):=⟨h17_⟩
     have n18_ : Aside0 (gb223 ≠ gb207):=⟨h18_⟩
     have n19_ : Aside0 (gb208 ≠ gb223):=⟨h19_⟩
     have n20_ : Aside0 (gb223 ≠ gb208):=⟨h20_⟩
     have n21_ : Aside0 (gb209 ≠ gb223):=⟨h21_⟩
     have n22_ : Aside0 (gb223 ≠ gb209):=⟨h22_⟩
     have n23_ : Aside0 (Below w.heap.size w w16):=⟨h23_⟩
     clear BK207 BK208 BK209 HB h0_ h1_ h2_ h3_ h4_ h5_ h6_ h7_ h8_ h9_ h10_ h11_ h12_ h13_ h14_ h15_ h16_ h17_ h18_ h19_ h20_ h21_ h22_ h23_
     have BK207:=n0_;have BK208:=n1_;have BK209:=n2_;have BK222:=n3_;have BK223:=n4_;have GW222:=n5_;have GE222:=n6_;have NB207_222:=n7_;have NB222_207:=n8_;have NB208_222:=n9_;have NB222_208:=n10_;have NB209_222:=n11_;have NB222_209:=n12_;have NB223_222:=n13_;have NB222_223:=n14_;have GW223:=n15_;have GE223:=n16_;have NB207_223:=n17_;have NB223_207:=n18_;have NB208_223:=n19_;have NB223_208:=n20_;have NB209_223:=n21_;have NB223_209:=n22_;have HB:=n23_
     clear n0_ n1_ n2_ n3_ n4_ n5_ n6_ n7_ n8_ n9_ n10_ n11_ n12_ n13_ n14_ n15_ n16_ n17_ n18_ n19_ n20_ n21_ n22_ n23_
     have hHeld : w16.cell? ⟨gb207,0,none⟩ = some (.int .i64 a0_0)∧w16.cell? ⟨gb207,1,none⟩ = some (.int .i64 a0_1)∧w16.cell? ⟨gb207,2,none⟩ = some (.int .i64 a0_2)∧w16.cell? ⟨gb207,3,none⟩ = some (.int .i64 a0_3)∧w16.cell? ⟨gb208,0,none⟩ = some (.int .i64 a1_0)∧w16.cell? ⟨gb208,1,none⟩ = some (.int .i64 a1_1)∧w16.cell? ⟨gb208,2,none⟩ = some (.int .i64 a1_2)∧w16.cell? ⟨gb208,3,none⟩ = some (.int .i64 a1_3):=hS_
     refine norm_ (a':=?_) ?_ ?_
     rotate_left
     ·simp only [putAll,Act.put,sA,sZ,sS]
      rfl
     refine one_ (i:=5) (N:=some 13) #[tt,tt,tt,tt,tt,tt,tt,tt,ff,ff] rfl rfl (one_of HT_.out (by kernel_rfl)) (by decide) (fun K hK => ?_)
     refine goes_ Try.func64 (by kernel_rfl) rfl #[.agg #[.int .i64 a0_0,.int .i64 a0_1,.int .i64 a0_2,.int .i64 a0_3]] (by rfl) rfl rfl (by (try simp only [List.map_toArray,List.map_cons,List.map_nil]);first|done|rfl|(simp only [List.length_drop,List.length_take];rfl)) ?_
     with_reducible refine (key_of.calls a0_0 a0_1 a0_2 a0_3 t218 t219 t220 t221 _ A5.out).mono ?_
     rintro e w17 ⟨rfl,hb⟩
     refine ⟨_,rfl,?_⟩
     have n0_:=Kb BK207 hb
     have n1_:=Kb BK208 hb
     have n2_:=Kb BK209 hb
     have n3_:=Kb BK222 hb
     have n4_:=Kb BK223 hb
     have n5_:=Ak (below_step (by repeat (first|(with_reducible first|exact HB.out|apply bA|apply bN|apply bD|refine bS ?_ GE207.out|refine bS ?_ GE208.out|refine bS ?_ GE209.out|refine bS ?_ GE222.out|refine bS ?_ GE223.out)|exact HB.out)) hb)
     clear BK207 BK208 BK209 BK222 BK223 HB
     have BK207:=n0_;have BK208:=n1_;have BK209:=n2_;have BK222:=n3_;have BK223:=n4_;have HB:=n5_
     clear n0_ n1_ n2_ n3_ n4_ n5_
     (try clear hb)
     (try clear hb2)
     (try clear hk)
     (try clear hi)
     refine hK.out _ _ ⟨(kC BK207.out 0).trans rfl,(kC BK207.out 1).trans rfl,(kC BK207.out 2).trans rfl,(kC BK207.out 3).trans rfl,(kC BK208.out 0).trans rfl,(kC BK208.out 1).trans rfl,(kC BK208.out 2).trans rfl,(kC BK208.out 3).trans rfl⟩ (fun hHeld => ?_)
     clear hK K
     refine norm_ (a':=?_) ?_ ?_
     rotate_left
     ·show Act.put _ (some 13) _ = _
      simp only [Act.put,sA,sZ,sS,i64_w,i32_w]
      rfl
     exact norm_ (by first|(simp only [putAll,Act.put,sA,sZ,sS];done)|(simp only [putAll,Act.put,sA,sZ,sS];rfl)) (hJ2_3_5_6_7 (gb222,gb223) _ ⟨hHeld,BK207.out,BK208.out,BK209.out,BK222.out,BK223.out,GW222.out,GE222.out,NB207_222.out,NB222_207.out,NB208_222.out,NB222_208.out,NB209_222.out,NB222_209.out,NB223_222.out,NB222_223.out,GW223.out,GE223.out,NB207_223.out,NB223_207.out,NB208_223.out,NB223_208.out,NB209_223.out,NB223_209.out,(by repeat (first|(with_reducible first|exact HB.out|apply bA|apply bN|apply bD|refine bS ?_ GE207.out|refine bS ?_ GE208.out|refine bS ?_ GE209.out|refine bS ?_ GE222.out|refine bS ?_ GE223.out)|exact HB.out))⟩)
   ·skip
    rintro gb223 w16 ⟨hS_,h0_,h1_,h2_,h3_,h4_,h5_,h6_,h7_,h8_,h9_,h10_,h11_,h12_⟩
    have n0_ : Aside0 (w16.heap[gb207]? = some (.cells #[.int .i64 a0_0,.int .i64 a0_1,.int .i64 a0_2,.int .i64 a0_3] 35 (0,0))):=⟨h0_⟩
    have n1_ : Aside0 (w16.heap[gb208]? = some (.cells #[.int .i64 a1_0,.int .i64 a1_1,.int .i64 a1_2,.int .i64 a1_3] 35 (0,0))):=⟨h1_⟩
    have n2_ : Aside0 (w16.heap[gb209]? = some (.cells #[.int .u64 0,.int .u64 0,.int .u64 0,.int .u64 0] 79 (0,0))):=⟨h2_⟩
    have n3_ : Aside0 (w16.heap[gb223]? = some (.cells #[.int .u64 0,.int .u64 0,.int .u64 0,.int .u64 0] 79 (0,0))):=⟨h3_⟩
    have n4_ : Aside0 (w.heap.size ≤ gb223):=⟨h4_⟩
    have n5_ : Aside0 (w.heap.size ≤ gb223):=⟨h5_⟩
    have n6_ : Aside0 (gb207 ≠ gb223):=⟨h6_⟩
    have n7_ : Aside0 (gb223 ≠ gb207):=⟨h7_⟩
    have n8_ : Aside0 (gb208 ≠ gb223):=⟨h8_⟩
    have n9_ : Aside0 (gb223 ≠ gb208):=⟨h9_⟩
    have n10_ : Aside0 (gb209 ≠ gb223):=⟨h10_⟩
    have n11_ : Aside0 (gb223 ≠ gb209):=⟨h11_⟩
    have n12_ : Aside0 (Below w.heap.size w w16):=⟨h12_⟩
    clear BK207 BK208 BK209 HB h0_ h1_ h2_ h3_ h4_ h5_ h6_ h7_ h8_ h9_ h10_ h11_ h12_
    have BK207:=n0_;have BK208:=n1_;have BK209:=n2_;have BK223:=n3_;have GW223:=n4_;have GE223:=n5_;have NB207_223:=n6_;have NB223_207:=n7_;have NB208_223:=n8_;have NB223_208:=n9_;have NB209_223:=n10_;have NB223_209:=n11_;have HB:=n12_
    clear n0_ n1_ n2_ n3_ n4_ n5_ n6_ n7_ n8_ n9_ n10_ n11_ n12_
    have hHeld : w16.cell? ⟨gb207,0,none⟩ = some (.int .i64 a0_0)∧w16.cell? ⟨gb207,1,none⟩ = some (.int .i64 a0_1)∧w16.cell? ⟨gb207,2,none⟩ = some (.int .i64 a0_2)∧w16.cell? ⟨gb207,3,none⟩ = some (.int .i64 a0_3)∧w16.cell? ⟨gb208,0,none⟩ = some (.int .i64 a1_0)∧w16.cell? ⟨gb208,1,none⟩ = some (.int .i64 a1_1)∧w16.cell? ⟨gb208,2,none⟩ = some (.int .i64 a1_2)∧w16.cell? ⟨gb208,3,none⟩ = some (.int .i64 a1_3):=hS_
    refine norm_ (a':=?_) ?_ ?_
    rotate_left
    ·simp only [putAll,Act.put,sA,sZ,sS]
     rfl
    refine one_ (i:=6) (N:=some 5) #[tt,tt,tt,tt,tt,tt,tt,tt,ff,ff] rfl rfl (one_of HT_.out (by kernel_rfl)) (by decide) (fun K hK => ?_)
    refine box_step ?hg (N:=5) ?hd (cs:=#[.int .u64 0,.int .u64 0,.int .u64 0,.int .u64 0]) (t:=79) ?hr ?_;(case hd => rfl);(case hg => rfl);(case hr => first|(go_simp;done)|(go_simp;rfl))
    intro gb222 hg w17 hbox hb
    have n0_:=Kb BK207 hb
    have n1_:=Kb BK208 hb
    have n2_:=Kb BK209 hb
    have n3_:=Kb BK223 hb
    have n4_:=Ak (below_step (by repeat (first|(with_reducible first|exact HB.out|apply bA|apply bN|apply bD|refine bS ?_ GE207.out|refine bS ?_ GE208.out|refine bS ?_ GE209.out|refine bS ?_ GE223.out)|exact HB.out)) hb)
    have n5_:=Ak (hbox)
    have n6_:=Ak ((by rw [hg];exact (below_size (by repeat (first|(with_reducible first|exact HB.out|apply bA|apply bN|apply bD|refine bS ?_ GE207.out|refine bS ?_ GE208.out|refine bS ?_ GE209.out|refine bS ?_ GE223.out)|exact HB.out))) : w.heap.size ≤ gb222))
    have n7_:=Ak ((by rw [hg];exact (below_size (by repeat (first|(with_reducible first|exact HB.out|apply bA|apply bN|apply bD|refine bS ?_ GE207.out|refine bS ?_ GE208.out|refine bS ?_ GE209.out|refine bS ?_ GE223.out)|exact HB.out))) : w.heap.size ≤ gb222))
    have n8_:=Kl hg BK207
    have n9_:=Km hg BK207
    have n10_:=Kl hg BK208
    have n11_:=Km hg BK208
    have n12_:=Kl hg BK209
    have n13_:=Km hg BK209
    have n14_:=Kl hg BK223
    have n15_:=Km hg BK223
    clear BK207 BK208 BK209 BK223 HB
    have BK207:=n0_;have BK208:=n1_;have BK209:=n2_;have BK223:=n3_;have HB:=n4_;have BK222:=n5_;have GW222:=n6_;have GE222:=n7_;have NB207_222:=n8_;have NB222_207:=n9_;have NB208_222:=n10_;have NB222_208:=n11_;have NB209_222:=n12_;have NB222_209:=n13_;have NB223_222:=n14_;have NB222_223:=n15_
    clear n0_ n1_ n2_ n3_ n4_ n5_ n6_ n7_ n8_ n9_ n10_ n11_ n12_ n13_ n14_ n15_ hb hbox hg
    refine hK.out _ _ ⟨(kC BK207.out 0).trans rfl,(kC BK207.out 1).trans rfl,(kC BK207.out 2).trans rfl,(kC BK207.out 3).trans rfl,(kC BK208.out 0).trans rfl,(kC BK208.out 1).trans rfl,(kC BK208.out 2).trans rfl,(kC BK208.out 3).trans rfl⟩ (fun hHeld => ?_)
    clear hK K
    refine norm_ (a':=?_) ?_ ?_
    rotate_left
    ·show Act.put _ (some 5) _ = _
     simp only [Act.put,sA,sZ,sS,i64_w,i32_w]
     rfl
    exact norm_ (by first|(simp only [putAll,Act.put,sA,sZ,sS];done)|(simp only [putAll,Act.put,sA,sZ,sS];rfl)) (hJ2_3_5_6_7 (gb222,gb223) _ ⟨hHeld,BK207.out,BK208.out,BK209.out,BK222.out,BK223.out,GW222.out,GE222.out,NB207_222.out,NB222_207.out,NB208_222.out,NB222_208.out,NB209_222.out,NB222_209.out,NB223_222.out,NB222_223.out,GW223.out,GE223.out,NB207_223.out,NB223_207.out,NB208_223.out,NB223_208.out,NB209_223.out,NB223_209.out,(by repeat (first|(with_reducible first|exact HB.out|apply bA|apply bN|apply bD|refine bS ?_ GE207.out|refine bS ?_ GE208.out|refine bS ?_ GE209.out|refine bS ?_ GE223.out|refine bS ?_ GE222.out)|exact HB.out))⟩)
  ·skip
   rintro gb222 w16 ⟨hS_,h0_,h1_,h2_,h3_,h4_,h5_,h6_,h7_,h8_,h9_,h10_,h11_,h12_⟩
   have n0_ : Aside0 (w16.heap[gb207]? = some (.cells #[.int .i64 a0_0,.int .i64 a0_1,.int .i64 a0_2,.int .i64 a0_3] 35 (0,0))):=⟨h0_⟩
   have n1_ : Aside0 (w16.heap[gb208]? = some (.cells #[.int .i64 a1_0,.int .i64 a1_1,.int .i64 a1_2,.int .i64 a1_3] 35 (0,0))):=⟨h1_⟩
   have n2_ : Aside0 (w16.heap[gb209]? = some (.cells #[.int .u64 0,.int .u64 0,.int .u64 0,.int .u64 0] 79 (0,0))):=⟨h2_⟩
   have n3_ : Aside0 (w16.heap[gb222]? = some (.cells #[.int .u64 0,.int .u64 0,.int .u64 0,.int .u64 0] 79 (0,0))):=⟨h3_⟩
   have n4_ : Aside0 (w.heap.size ≤ gb222):=⟨h4_⟩
   have n5_ : Aside0 (w.heap.size ≤ gb222):=⟨h5_⟩
   have n6_ : Aside0 (gb207 ≠ gb222):=⟨h6_⟩
   have n7_ : Aside0 (gb222 ≠ gb207):=⟨h7_⟩
   have n8_ : Aside0 (gb208 ≠ gb222):=⟨h8_⟩
   have n9_ : Aside0 (gb222 ≠ gb208):=⟨h9_⟩
   have n10_ : Aside0 (gb209 ≠ gb222):=⟨h10_⟩
   have n11_ : Aside0 (gb222 ≠ gb209):=⟨h11_⟩
   have n12_ : Aside0 (Below w.heap.size w w16):=⟨h12_⟩
   clear BK207 BK208 BK209 HB h0_ h1_ h2_ h3_ h4_ h5_ h6_ h7_ h8_ h9_ h10_ h11_ h12_
   have BK207:=n0_;have BK208:=n1_;have BK209:=n2_;have BK222:=n3_;have GW222:=n4_;have GE222:=n5_;have NB207_222:=n6_;have NB222_207:=n7_;have NB208_222:=n8_;have NB222_208:=n9_;have NB209_222:=n10_;have NB222_209:=n11_;have HB:=n12_
   clear n0_ n1_ n2_ n3_ n4_ n5_ n6_ n7_ n8_ n9_ n10_ n11_ n12_
   have hHeld : w16.cell? ⟨gb207,0,none⟩ = some (.int .i64 a0_0)∧w16.cell? ⟨gb207,1,none⟩ = some (.int .i64 a0_1)∧w16.cell? ⟨gb207,2,none⟩ = some (.int .i64 a0_2)∧w16.cell? ⟨gb207,3,none⟩ = some (.int .i64 a0_3)∧w16.cell? ⟨gb208,0,none⟩ = some (.int .i64 a1_0)∧w16.cell? ⟨gb208,1,none⟩ = some (.int .i64 a1_1)∧w16.cell? ⟨gb208,2,none⟩ = some (.int .i64 a1_2)∧w16.cell? ⟨gb208,3,none⟩ = some (.int .i64 a1_3):=hS_
   refine norm_ (a':=?_) ?_ ?_
   rotate_left
   ·simp only [putAll,Act.put,sA,sZ,sS]
    rfl
   refine one_ (i:=7) (N:=some 6) #[tt,tt,tt,tt,tt,tt,tt,tt,ff,ff] rfl rfl (one_of HT_.out (by kernel_rfl)) (by decide) (fun K hK => ?_)
   refine box_step ?hg (N:=6) ?hd (cs:=#[.int .u64 0,.int .u64 0,.int .u64 0,.int .u64 0]) (t:=79) ?hr ?_;(case hd => rfl);(case hg => rfl);(case hr => first|(go_simp;done)|(go_simp;rfl))
   intro gb223 hg w17 hbox hb
   have n0_:=Kb BK207 hb
   have n1_:=Kb BK208 hb
   have n2_:=Kb BK209 hb
   have n3_:=Kb BK222 hb
   have n4_:=Ak (below_step (by repeat (first|(with_reducible first|exact HB.out|apply bA|apply bN|apply bD|refine bS ?_ GE207.out|refine bS ?_ GE208.out|refine bS ?_ GE209.out|refine bS ?_ GE222.out)|exact HB.out)) hb)
   have n5_:=Ak (hbox)
   have n6_:=Ak ((by rw [hg];exact (below_size (by repeat (first|(with_reducible first|exact HB.out|apply bA|apply bN|apply bD|refine bS ?_ GE207.out|refine bS ?_ GE208.out|refine bS ?_ GE209.out|refine bS ?_ GE222.out)|exact HB.out))) : w.heap.size ≤ gb223))
   have n7_:=Ak ((by rw [hg];exact (below_size (by repeat (first|(with_reducible first|exact HB.out|apply bA|apply bN|apply bD|refine bS ?_ GE207.out|refine bS ?_ GE208.out|refine bS ?_ GE209.out|refine bS ?_ GE222.out)|exact HB.out))) : w.heap.size ≤ gb223))
   have n8_:=Kl hg BK207
   have n9_:=Km hg BK207
   have n10_:=Kl hg BK208
   have n11_:=Km hg BK208
   have n12_:=Kl hg BK209
   have n13_:=Km hg BK209
   have n14_:=Kl hg BK222
   have n15_:=Km hg BK222
   clear BK207 BK208 BK209 BK222 HB
   have BK207:=n0_;have BK208:=n1_;have BK209:=n2_;have BK222:=n3_;have HB:=n4_;have BK223:=n5_;have GW223:=n6_;have GE223:=n7_;have NB207_223:=n8_;have NB223_207:=n9_;have NB208_223:=n10_;have NB223_208:=n11_;have NB209_223:=n12_;have NB223_209:=n13_;have NB222_223:=n14_;have NB223_222:=n15_
   clear n0_ n1_ n2_ n3_ n4_ n5_ n6_ n7_ n8_ n9_ n10_ n11_ n12_ n13_ n14_ n15_ hb hbox hg
   refine hK.out _ _ ⟨(kC BK207.out 0).trans rfl,(kC BK207.out 1).trans rfl,(kC BK207.out 2).trans rfl,(kC BK207.out 3).trans rfl,(kC BK208.out 0).trans rfl,(kC BK208.out 1).trans rfl,(kC BK208.out 2).trans rfl,(kC BK208.out 3).trans rfl⟩ (fun hHeld => ?_)
   clear hK K
   refine norm_ (a':=?_) ?_ ?_
   rotate_left
   ·show Act.put _ (some 6) _ = _
    simp only [Act.put,sA,sZ,sS,i64_w,i32_w]
    rfl
   exact norm_ (by first|(simp only [putAll,Act.put,sA,sZ,sS];done)|(simp only [putAll,Act.put,sA,sZ,sS];rfl)) (hJ2_3_5_6_7 (gb222,gb223) _ ⟨hHeld,BK207.out,BK208.out,BK209.out,BK222.out,BK223.out,GW222.out,GE222.out,NB207_222.out,NB222_207.out,NB208_222.out,NB222_208.out,NB209_222.out,NB222_209.out,NB223_222.out,NB222_223.out,GW223.out,GE223.out,NB207_223.out,NB223_207.out,NB208_223.out,NB223_208.out,NB209_223.out,NB223_209.out,(by repeat (first|(with_reducible first|exact HB.out|apply bA|apply bN|apply bD|refine bS ?_ GE207.out|refine bS ?_ GE208.out|refine bS ?_ GE209.out|refine bS ?_ GE222.out|refine bS ?_ GE223.out)|exact HB.out))⟩)
 rintro ⟨gb222,gb223⟩ w17 ⟨hS_,h0_,h1_,h2_,h3_,h4_,h5_,h6_,h7_,h8_,h9_,h10_,h11_,h12_,h13_,h14_,h15_,h16_,h17_,h18_,h19_,h20_,h21_,h22_,h23_⟩
 have n0_ : Aside0 (w17.heap[gb207]? = some (.cells #[.int .i64 a0_0,.int .i64 a0_1,.int .i64 a0_2,.int .i64 a0_3] 35 (0,0))):=⟨h0_⟩
 have n1_ : Aside0 (w17.heap[gb208]? = some (.cells #[.int .i64 a1_0,.int .i64 a1_1,.int .i64 a1_2,.int .i64 a1_3] 35 (0,0))):=⟨h1_⟩
 have n2_ : Aside0 (w17.heap[gb209]? = some (.cells #[.int .u64 0,.int .u64 0,.int .u64 0,.int .u64 0] 79 (0,0))):=⟨h2_⟩
 have n3_ : Aside0 (w17.heap[gb222]? = some (.cells #[.int .u64 0,.int .u64 0,.int .u64 0,.int .u64 0] 79 (0,0))):=⟨h3_⟩
 have n4_ : Aside0 (w17.heap[gb223]? = some (.cells #[.int .u64 0,.int .u64 0,.int .u64 0,.int .u64 0] 79 (0,0))):=⟨h4_⟩
 have n5_ : Aside0 (w.heap.size ≤ gb222):=⟨h5_⟩
 have n6_ : Aside0 (w.heap.size ≤ gb222):=⟨h6_⟩
 have n7_ : Aside0 (gb207 ≠ gb222):=⟨h7_⟩
 have n8_ : Aside0 (gb222 ≠ gb207):=⟨h8_⟩
 have n9_ : Aside0 (gb208 ≠ gb222):=⟨h9_⟩
 have n10_ : Aside0 (gb222 ≠ gb208):=⟨h10_⟩
 have n11_ : Aside0 (gb209 ≠ gb222):=⟨h11_⟩
 have n12_ : Aside0 (gb222 ≠ gb209):=⟨h12_⟩
 have n13_ : Aside0 (gb223 ≠ gb222):=⟨h13_⟩
 have n14_ : Aside0 (gb222 ≠ gb223):=⟨h14_⟩
 have n15_ : Aside0 (w.heap.size ≤ gb223):=⟨h15_⟩
 have n16_ : Aside0 (w.heap.size ≤ gb223):=⟨h16_⟩
 have n17_ : Aside0 (gb207 ≠ gb223):=⟨h17_⟩
 have n18_ : Aside0 (gb223 ≠ gb207):=⟨h18_⟩
 have n19_ : Aside0 (gb208 ≠ gb223):=⟨h19_⟩
 have n20_ : Aside0 (gb223 ≠ gb208):=⟨h20_⟩
 have n21_ : Aside0 (gb209 ≠ gb223):=⟨h21_⟩
 have n22_ : Aside0 (gb223 ≠ gb209):=⟨h22_⟩
 have n23_ : Aside0 (Below w.heap.size w w17):=⟨h23_⟩
 clear BK207 BK208 BK209 HB h0_ h1_ h2_ h3_ h4_ h5_ h6_ h7_ h8_ h9_ h10_ h11_ h12_ h13_ h14_ h15_ h16_ h17_ h18_ h19_ h20_ h21_ h22_ h23_
 have BK207:=n0_;have BK208:=n1_;have BK209:=n2_;have BK222:=n3_;have BK223:=n4_;have GW222:=n5_;have GE222:=n6_;have NB207_222:=n7_;have NB222_207:=n8_;have NB208_222:=n9_;have NB222_208:=n10_;have NB209_222:=n11_;have NB222_209:=n12_;have NB223_222:=n13_;have NB222_223:=n14_;have GW223:=n15_;have GE223:=n16_;have NB207_223:=n17_;have NB223_207:=n18_;have NB208_223:=n19_;have NB223_208:=n20_;have NB209_223:=n21_;have NB223_209:=n22_;have HB:=n23_
 clear n0_ n1_ n2_ n3_ n4_ n5_ n6_ n7_ n8_ n9_ n10_ n11_ n12_ n13_ n14_ n15_ n16_ n17_ n18_ n19_ n20_ n21_ n22_ n23_
 have hHeld : w17.cell? ⟨gb207,0,none⟩ = some (.int .i64 a0_0)∧w17.cell? ⟨gb207,1,none⟩ = some (.int .i64 a0_1)∧w17.cell? ⟨gb207,2,none⟩ = some (.int .i64 a0_2)∧w17.cell? ⟨gb207,3,none⟩ = some (.int .i64 a0_3)∧w17.cell? ⟨gb208,0,none⟩ = some (.int .i64 a1_0)∧w17.cell? ⟨gb208,1,none⟩ = some (.int .i64 a1_1)∧w17.cell? ⟨gb208,2,none⟩ = some (.int .i64 a1_2)∧w17.cell? ⟨gb208,3,none⟩ = some (.int .i64 a1_3):=hS_
 refine norm_ (a':=?_) ?_ ?_
 rotate_left
 ·simp only [putAll,Act.put,sA,sZ,sS]
  rfl
 refine one_ (i:=8) (N:=none) #[tt,tt,tt,tt,tt,tt,tt,tt,tt,ff] rfl rfl (one_of HT_.out (by kernel_rfl)) (by decide) (fun K hK => ?_)
 have hs18 : w17.cell? ⟨gb222,0,none⟩ = some (.int .u64 0):=(kC BK222.out 0).trans rfl
 have hfs18:=blk_frozen BK222.out 0
 have hns18_0:=NB207_222.out
 have hns18_1:=NB208_222.out
 have hns18_2:=NB209_222.out
 have hns18_4:=NB223_222.out
 have hms18_0:=NB222_207.out
 have hms18_1:=NB222_208.out
 have hms18_2:=NB222_209.out
 have hms18_4:=NB222_223.out
 have hs19 : w17.cell? ⟨gb222,1,none⟩ = some (.int .u64 0):=(kC BK222.out 1).trans rfl
 have hfs19:=blk_frozen BK222.out 1
 have hns19_0:=NB207_222.out
 have hns19_1:=NB208_222.out
 have hns19_2:=NB209_222.out
 have hns19_4:=NB223_222.out
 have hms19_0:=NB222_207.out
 have hms19_1:=NB222_208.out
 have hms19_2:=NB222_209.out
 have hms19_4:=NB222_223.out
 have hs20 : w17.cell? ⟨gb222,2,none⟩ = some (.int .u64 0):=(kC BK222.out 2).trans rfl
 have hfs20:=blk_frozen BK222.out 2
 have hns20_0:=NB207_222.out
 have hns20_1:=NB208_222.out
 have hns20_2:=NB209_222.out
 have hns20_4:=NB223_222.out
 have hms20_0:=NB222_207.out
 have hms20_1:=NB222_208.out
 have hms20_2:=NB222_209.out
 have hms20_4:=NB222_223.out
 have hs21 : w17.cell? ⟨gb222,3,none⟩ = some (.int .u64 0):=(kC BK222.out 3).trans rfl
 have hfs21:=blk_frozen BK222.out 3
 have hns21_0:=NB207_222.out
 have hns21_1:=NB208_222.out
 have hns21_2:=NB209_222.out
 have hns21_4:=NB223_222.out
 have hms21_0:=NB222_207.out
 have hms21_1:=NB222_208.out
 have hms21_2:=NB222_209.out
 have hms21_4:=NB222_223.out
 refine skip_ (w1:=?_) (by rfl) rfl ?_ ?_
 rotate_left
 ·go_simp
  rfl
 refine hK.out _ _ ⟨((cell_far (p:=⟨gb222,_,none⟩) NB207_222.out _).trans (((cell_far (p:=⟨gb222,_,none⟩) NB207_222.out _).trans (((cell_far (p:=⟨gb222,_,none⟩) NB207_222.out _).trans (((cell_far (p:=⟨gb222,_,none⟩) NB207_222.out _).trans (hHeld.1)))))))),((cell_far (p:=⟨gb222,_,none⟩) NB207_222.out _).trans (((cell_far (p:=⟨gb222,_,none⟩) NB207_222.out _).trans (((cell_far (p:=⟨gb222,_,none⟩) NB207_222.out _).trans (((cell_far (p:=⟨gb222,_,none⟩) NB207_222.out _).trans (hHeld.2.1)))))))),((cell_far (p:=⟨gb222,_,none⟩) NB207_222.out _).trans (((cell_far (p:=⟨gb222,_,none⟩) NB207_222.out _).trans (((cell_far (p:=⟨gb222,_,none⟩) NB207_222.out _).trans (((cell_far (p:=⟨gb222,_,none⟩) NB207_222.out _).trans (hHeld.2.2.1)))))))),((cell_far (p:=⟨gb222,_,none⟩) NB207_222.out _).trans (((cell_far (p:=⟨gb222,_,none⟩) NB207_222.out _).trans (((cell_far (p:=⟨gb222,_,none⟩) NB207_222.out _).trans (((cell_far (p:=⟨gb222,_,none⟩) NB207_222.out _).trans (hHeld.2.2.2.1)))))))),((cell_far (p:=⟨gb222,_,none⟩) NB208_222.out _).trans (((cell_far (p:=⟨gb222,_,none⟩) NB208_222.out _).trans (((cell_far (p:=⟨gb222,_,none⟩) NB208_222.out _).trans (((cell_far (p:=⟨gb222,_,none⟩) NB208_222.out _).trans (hHeld.2.2.2.2.1)))))))),((cell_far (p:=⟨gb222,_,none⟩) NB208_222.out _).trans (((cell_far (p:=⟨gb222,_,none⟩) NB208_222.out _).trans (((cell_far (p:=⟨gb222,_,none⟩) NB208_222.out _).trans (((cell_far (p:=⟨gb222,_,none⟩) NB208_222.out _).trans (hHeld.2.2.2.2.2.1)))))))),((cell_far (p:=⟨gb222,_,none⟩) NB208_222.out _).trans (((cell_far (p:=⟨gb222,_,none⟩) NB208_222.out _).trans (((cell_far (p:=⟨gb222,_,none⟩) NB208_222.out _).trans (((cell_far (p:=⟨gb222,_,none⟩) NB208_222.out _).trans (hHeld.2.2.2.2.2.2.1)))))))),((cell_far (p:=⟨gb222,_,none⟩) NB208_222.out _).trans (((cell_far (p:=⟨gb222,_,none⟩) NB208_222.out _).trans (((cell_far (p:=⟨gb222,_,none⟩) NB208_222.out _).trans (((cell_far (p:=⟨gb222,_,none⟩) NB208_222.out _).trans (hHeld.2.2.2.2.2.2.2))))))))⟩ (fun hHeld => ?_)
 clear hK K
 refine one_ (i:=9) (N:=none) #[tt,tt,tt,tt,tt,tt,tt,tt,tt,tt] rfl rfl (one_of HT_.out (by kernel_rfl)) (by decide) (fun K hK => ?_)
 have hs22 : w17.cell? ⟨gb223,0,none⟩ = some (.int .u64 0):=(kC BK223.out 0).trans rfl
 have hfs22:=blk_frozen BK223.out 0
 have hns22_0:=NB207_223.out
 have hns22_1:=NB208_223.out
 have hns22_2:=NB209_223.out
 have hns22_3:=NB222_223.out
 have hms22_0:=NB223_207.out
 have hms22_1:=NB223_208.out
 have hms22_2:=NB223_209.out
 have hms22_3:=NB223_222.out
 have hs23 : w17.cell? ⟨gb223,1,none⟩ = some (.int .u64 0):=(kC BK223.out 1).trans rfl
 have hfs23:=blk_frozen BK223.out 1
 have hns23_0:=NB207_223.out
 have hns23_1:=NB208_223.out
 have hns23_2:=NB209_223.out
 have hns23_3:=NB222_223.out
 have hms23_0:=NB223_207.out
 have hms23_1:=NB223_208.out
 have hms23_2:=NB223_209.out
 have hms23_3:=NB223_222.out
 have hs24 : w17.cell? ⟨gb223,2,none⟩ = some (.int .u64 0):=(kC BK223.out 2).trans rfl
 have hfs24:=blk_frozen BK223.out 2
 have hns24_0:=NB207_223.out
 have hns24_1:=NB208_223.out
 have hns24_2:=NB209_223.out
 have hns24_3:=NB222_223.out
 have hms24_0:=NB223_207.out
 have hms24_1:=NB223_208.out
 have hms24_2:=NB223_209.out
 have hms24_3:=NB223_222.out
 have hs25 : w17.cell? ⟨gb223,3,none⟩ = some (.int .u64 0):=(kC BK223.out 3).trans rfl
 have hfs25:=blk_frozen BK223.out 3
 have hns25_0:=NB207_223.out
 have hns25_1:=NB208_223.out
 have hns25_2:=NB209_223.out
 have hns25_3:=NB222_223.out
 have hms25_0:=NB223_207.out
 have hms25_1:=NB223_208.out
 have hms25_2:=NB223_209.out
 have hms25_3:=NB223_222.out
 refine skip_ (w1:=?_) (by rfl) rfl ?_ ?_
 rotate_left
 ·go_simp
  rfl
 refine hK.out _ _ ⟨((cell_far (p:=⟨gb223,_,none⟩) NB207_223.out _).trans (((cell_far (p:=⟨gb223,_,none⟩) NB207_223.out _).trans (((cell_far (p:=⟨gb223,_,none⟩) NB207_223.out _).trans (((cell_far (p:=⟨gb223,_,none⟩) NB207_223.out _).trans (hHeld.1)))))))),((cell_far (p:=⟨gb223,_,none⟩) NB207_223.out _).trans (((cell_far (p:=⟨gb223,_,none⟩) NB207_223.out _).trans (((cell_far (p:=⟨gb223,_,none⟩) NB207_223.out _).trans (((cell_far (p:=⟨gb223,_,none⟩) NB207_223.out _).trans (hHeld.2.1)))))))),((cell_far (p:=⟨gb223,_,none⟩) NB207_223.out _).trans (((cell_far (p:=⟨gb223,_,none⟩) NB207_223.out _).trans (((cell_far (p:=⟨gb223,_,none⟩) NB207_223.out _).trans (((cell_far (p:=⟨gb223,_,none⟩) NB207_223.out _).trans (hHeld.2.2.1)))))))),((cell_far (p:=⟨gb223,_,none⟩) NB207_223.out _).trans (((cell_far (p:=⟨gb223,_,none⟩) NB207_223.out _).trans (((cell_far (p:=⟨gb223,_,none⟩) NB207_223.out _).trans (((cell_far (p:=⟨gb223,_,none⟩) NB207_223.out _).trans (hHeld.2.2.2.1)))))))),((cell_far (p:=⟨gb223,_,none⟩) NB208_223.out _).trans (((cell_far (p:=⟨gb223,_,none⟩) NB208_223.out _).trans (((cell_far (p:=⟨gb223,_,none⟩) NB208_223.out _).trans (((cell_far (p:=⟨gb223,_,none⟩) NB208_223.out _).trans (hHeld.2.2.2.2.1)))))))),((cell_far (p:=⟨gb223,_,none⟩) NB208_223.out _).trans (((cell_far (p:=⟨gb223,_,none⟩) NB208_223.out _).trans (((cell_far (p:=⟨gb223,_,none⟩) NB208_223.out _).trans (((cell_far (p:=⟨gb223,_,none⟩) NB208_223.out _).trans (hHeld.2.2.2.2.2.1)))))))),((cell_far (p:=⟨gb223,_,none⟩) NB208_223.out _).trans (((cell_far (p:=⟨gb223,_,none⟩) NB208_223.out _).trans (((cell_far (p:=⟨gb223,_,none⟩) NB208_223.out _).trans (((cell_far (p:=⟨gb223,_,none⟩) NB208_223.out _).trans (hHeld.2.2.2.2.2.2.1)))))))),((cell_far (p:=⟨gb223,_,none⟩) NB208_223.out _).trans (((cell_far (p:=⟨gb223,_,none⟩) NB208_223.out _).trans (((cell_far (p:=⟨gb223,_,none⟩) NB208_223.out _).trans (((cell_far (p:=⟨gb223,_,none⟩) NB208_223.out _).trans (hHeld.2.2.2.2.2.2.2))))))))⟩ (fun hHeld => ?_)
 clear hK K
 refine done_ (done_of HT_.out (by kernel_rfl)) ?_
 try go_wp2_with (first|((with_reducible refine gate_dst (N:=7) rfl ?_);refine box_event ?hg (N:=7) ?hd (cs:=#[.int .u64 0,.int .u64 0,.int .u64 0,.int .u64 0]) (t:=79) ?hr ?_;(case hd => rfl);(case hg => rfl);(case hr => first|(go_simp;done)|(go_simp;rfl));intro gb224 hg w26 hbox hb;have n0_:=Ak (kB (g:=gb207) (o:=.cells #[.int .i64 a0_0,.int .i64 a0_1,.int .i64 a0_2,.int .i64 a0_3] 35 (0,0)) (by (with_reducible repeat (first|refine kN ?_ _|refine kD ?_|refine kA ?_ _));refine blk_far ?_ NB207_223.out _;(with_reducible repeat (first|refine kN ?_ _|refine kD ?_|refine kA ?_ _));refine blk_far ?_ NB207_223.out _;(with_reducible repeat (first|refine kN ?_ _|refine kD ?_|refine kA ?_ _));refine blk_far ?_ NB207_223.out _;(with_reducible repeat (first|refine kN ?_ _|refine kD ?_|refine kA ?_ _));refine blk_far ?_ NB207_223.out _;(with_reducible repeat (first|refine kN ?_ _|refine kD ?_|refine kA ?_ _));refine blk_far ?_ NB207_222.out _;(with_reducible repeat (first|refine kN ?_ _|refine kD ?_|refine kA ?_ _));refine blk_far ?_ NB207_222.out _;(with_reducible repeat (first|refine kN ?_ _|refine kD ?_|refine kA ?_ _));refine blk_far ?_ NB207_222.out _;(with_reducible repeat (first|refine kN ?_ _|refine kD ?_|refine kA ?_ _));refine blk_far ?_ NB207_222.out _;(with_reducible repeat (first|refine kN ?_ _|refine kD ?_|refine kA ?_ _));exact BK207.out) hb);have n1_:=Ak (kB (g:=gb208) (o:=.cells #[.int .i64 a1_0,.int .i64 a1_1,.int .i64 a1_2,.int .i64 a1_3] 35 (0,0)) (by (with_reducible repeat (first|refine kN ?_ _|refine kD ?_|refine kA ?_ _));refine blk_far ?_ NB208_223.out _;(with_reducible repeat (first|refine kN ?_ _|refine kD ?_|refine kA ?_ _));refine blk_far ?_ NB208_223.out _;(with_reducible repeat (first|refine kN ?_ _|refine kD ?_|refine kA ?_ _));refine blk_far ?_ NB208_223.out _;(with_reducible repeat (first|refine kN ?_ _|refine kD ?_|refine kA ?_ _));refine blk_far ?_ NB208_223.out _;(with_reducible repeat (first|refine kN ?_ _|refine kD ?_|refine kA ?_ _));refine blk_far ?_ NB208_222.out _;(with_reducible repeat (first|refine kN ?_ _|refine kD ?_|refine kA ?_ _));refine blk_far ?_ NB208_222.out _;(with_reducible repeat (first|refine kN ?_ _|refine kD ?_|refine kA ?_ _));refine blk_far ?_ NB208_222.out _;(with_reducible repeat (first|refine kN ?_ _|refine kD ?_|refine kA ?_ _));refine blk_far ?_ NB208_222.out _;(with_reducible repeat (first|refine kN ?_ _|refine kD ?_|refine kA ?_ _));exact BK208.out) hb);have n2_:=Ak (kB (g:=gb209) (o:=.cells #[.int .u64 0,.int .u64 0,.int .u64 0,.int .u64 0] 79 (0,0)) (by (with_reducible repeat (first|refine kN ?_ _|refine kD ?_|refine kA ?_ _));refine blk_far ?_ NB209_223.out _;(with_reducible repeat (first|refine kN ?_ _|refine kD ?_|refine kA ?_ _));refine blk_far ?_ NB209_223.out _;(with_reducible repeat (first|refine kN ?_ _|refine kD ?_|refine kA ?_ _));refine blk_far ?_ NB209_223.out _;(with_reducible repeat (first|refine kN ?_ _|refine kD ?_|refine kA ?_ _));refine blk_far ?_ NB209_223.out _;(with_reducible repeat (first|refine kN ?_ _|refine kD ?_|refine kA ?_ _));refine blk_far ?_ NB209_222.out _;(with_reducible repeat (first|refine kN ?_ _|refine kD ?_|refine kA ?_ _));refine blk_far ?_ NB209_222.out _;(with_reducible repeat (first|refine kN ?_ _|refine kD ?_|refine kA ?_ _));refine blk_far ?_ NB209_222.out _;(with_reducible repeat (first|refine kN ?_ _|refine kD ?_|refine kA ?_ _));refine blk_far ?_ NB209_222.out _;(with_reducible repeat (first|refine kN ?_ _|refine kD ?_|refine kA ?_ _));exact BK209.out) hb);have n3_:=Ak (kB (g:=gb222) (o:=.cells #[.int .u64 t214,.int .u64 t215,.int .u64 t216,.int .u64 t217] 79 (0,0)) (by (with_reducible repeat (first|refine kN ?_ _|refine kD ?_|refine kA ?_ _));refine blk_far ?_ NB222_223.out _;(with_reducible repeat (first|refine kN ?_ _|refine kD ?_|refine kA ?_ _));refine blk_far ?_ NB222_223.out _;(with_reducible repeat (first|refine kN ?_ _|refine kD ?_|refine kA ?_ _));refine blk_far ?_ NB222_223.out _;(with_reducible repeat (first|refine kN ?_ _|refine kD ?_|refine kA ?_ _));refine blk_far ?_ NB222_223.out _;(with_reducible repeat (first|refine kN ?_ _|refine kD ?_|refine kA ?_ _));refine blk_put (cs:=#[.int .u64 t214,.int .u64 t215,.int .u64 t216,.int .u64 0]) ?_ 3 _ rfl;(with_reducible repeat (first|refine kN ?_ _|refine kD ?_|refine kA ?_ _));refine blk_put (cs:=#[.int .u64 t214,.int .u64 t215,.int .u64 0,.int .u64 0]) ?_ 2 _ rfl;(with_reducible repeat (first|refine kN ?_ _|refine kD ?_|refine kA ?_ _));refine blk_put (cs:=#[.int .u64 t214,.int .u64 0,.int .u64 0,.int .u64 0]) ?_ 1 _ rfl;(with_reducible repeat (first|refine kN ?_ _|refine kD ?_|refine kA ?_ _));refine blk_put (cs:=#[.int .u64 0,.int .u64 0,.int .u64 0,.int .u64 0]) ?_ 0 _ rfl;(with_reducible repeat (first|refine kN ?_ _|refine kD ?_|refine kA ?_ _));exact BK222.out) hb);have n4_:=Ak (kB (g:=gb223) (o:=.cells #[.int .u64 t218,.int .u64 t219,.int .u64 t220,.int .u64 t221] 79 (0,0)) (by (with_reducible repeat (first|refine kN ?_ _|refine kD ?_|refine kA ?_ _));refine blk_put (cs:=#[.int .u64 t218,.int .u64 t219,.int .u64 t220,.int .u64 0]) ?_ 3 _ rfl;(with_reducible repeat (first|refine kN ?_ _|refine kD ?_|refine kA ?_ _));refine blk_put (cs:=#[.int .u64 t218,.int .u64 t219,.int .u64 0,.int .u64 0]) ?_ 2 _ rfl;(with_reducible repeat (first|refine kN ?_ _|refine kD ?_|refine kA ?_ _));refine blk_put (cs:=#[.int .u64 t218,.int .u64 0,.int .u64 0,.int .u64 0]) ?_ 1 _ rfl;(with_reducible repeat (first|refine kN ?_ _|refine kD ?_|refine kA ?_ _));refine blk_put (cs:=#[.int .u64 0,.int .u64 0,.int .u64 0,.int .u64 0]) ?_ 0 _ rfl;(with_reducible repeat (first|refine kN ?_ _|refine kD ?_|refine kA ?_ _));refine blk_far ?_ NB223_222.out _;(with_reducible repeat (first|refine kN ?_ _|refine kD ?_|refine kA ?_ _));refine blk_far ?_ NB223_222.out _;(with_reducible repeat (first|refine kN ?_ _|refine kD ?_|refine kA ?_ _));refine blk_far ?_ NB223_222.out _;(with_reducible repeat (first|refine kN ?_ _|refine kD ?_|refine kA ?_ _));refine blk_far ?_ NB223_222.out _;(with_reducible repeat (first|refine kN ?_ _|refine kD ?_|refine kA ?_ _));exact BK223.out) hb);have n5_:=Ak (below_step (by repeat (first|(with_reducible first|exact HB.out|apply bA|apply bN|apply bD|refine bS ?_ GE207.out|refine bS ?_ GE208.out|refine bS ?_ GE209.out|refine bS ?_ GE222.out|refine bS ?_ GE223.out)|exact HB.out)) hb);have n6_:=Ak (hbox);have n7_:=Ak ((by rw [hg];exact (below_size (by repeat (first|(with_reducible first|exact HB.out|apply bA|apply bN|apply bD|refine bS ?_ GE207.out|refine bS ?_ GE208.out|refine bS ?_ GE209.out|refine bS ?_ GE222.out|refine bS ?_ GE223.out)|exact HB.out))) : w.heap.size ≤ gb224));have n8_:=Ak ((by rw [hg];exact (below_size (by repeat (first|(with_reducible first|exact HB.out|apply bA|apply bN|apply bD|refine bS ?_ GE207.out|refine bS ?_ GE208.out|refine bS ?_ GE209.out|refine bS ?_ GE222.out|refine bS ?_ GE223.out)|exact HB.out))) : w.heap.size ≤ gb224));have n9_:=Ak ((by rw [hg];exact Nat.ne_of_lt (blk_lt (g:=gb207) (o:=.cells #[.int .i64 a0_0,.int .i64 a0_1,.int .i64 a0_2,.int .i64 a0_3] 35 (0,0)) (by (with_reducible repeat (first|refine kN ?_ _|refine kD ?_|refine kA ?_ _));refine blk_far ?_ NB207_223.out _;(with_reducible repeat (first|refine kN ?_ _|refine kD ?_|refine kA ?_ _));refine blk_far ?_ NB207_223.out _;(with_reducible repeat (first|refine kN ?_ _|refine kD ?_|refine kA ?_ _));refine blk_far ?_ NB207_223.out _;(with_reducible repeat (first|refine kN ?_ _|refine kD ?_|refine kA ?_ _));refine blk_far ?_ NB207_223.out _;(with_reducible repeat (first|refine kN ?_ _|refine kD ?_|refine kA ?_ _));refine blk_far ?_ NB207_222.out _;(with_reducible repeat (first|refine kN ?_ _|refine kD ?_|refine kA ?_ _));refine blk_far ?_ NB207_222.out _;(with_reducible repeat (first|refine kN ?_ _|refine kD ?_|refine kA ?_ _));refine blk_far ?_ NB207_222.out _;(with_reducible repeat (first|refine kN ?_ _|refine kD ?_|refine kA ?_ _));refine blk_far ?_ NB207_222.out _;(with_reducible repeat (first|refine kN ?_ _|refine kD ?_|refine kA ?_ _));exact BK207.out)) : gb207 ≠ gb224));have n10_:=Ak ((by rw [hg];exact Nat.ne_of_gt (blk_lt (g:=gb207) (o:=.cells #[.int .i64 a0_0,.int .i64 a0_1,.int .i64 a0_2,.int .i64 a0_3] 35 (0,0)) (by (with_reducible repeat (first|refine kN ?_ _|refine kD ?_|refine kA ?_ _));refine blk_far ?_ NB207_223.out _;(with_reducible repeat (first|refine kN ?_ _|refine kD ?_|refine kA ?_ _));refine blk_far ?_ NB207_223.out _;(with_reducible repeat (first|refine kN ?_ _|refine kD ?_|refine kA ?_ _));refine blk_far ?_ NB207_223.out _;(with_reducible repeat (first|refine kN ?_ _|refine kD ?_|refine kA ?_ _));refine blk_far ?_ NB207_223.out _;(with_reducible repeat (first|refine kN ?_ _|refine kD ?_|refine kA ?_ _));refine blk_far ?_ NB207_222.out _;(with_reducible repeat (first|refine kN ?_ _|refine kD ?_|refine kA ?_ _));refine blk_far ?_ NB207_222.out _;(with_reducible repeat (first|refine kN ?_ _|refine kD ?_|refine kA ?_ _));refine blk_far ?_ NB207_222.out _;(with_reducible repeat (first|refine kN ?_ _|refine kD ?_|refine kA ?_ _));refine blk_far ?_ NB207_222.out _;(with_reducible repeat (first|refine kN ?_ _|refine kD ?_|refine kA ?_ _));exact BK207.out)) : gb224 ≠ gb207));have n11_:=Ak ((by rw [hg];exact Nat.ne_of_lt (blk_lt (g:=gb208) (o:=.cells #[.int .i64 a1_0,.int .i64 a1_1,.int .i64 a1_2,.int .i64 a1_3] 35 (0,0)) (by (with_reducible repeat (first|refine kN ?_ _|refine kD ?_|refine kA ?_ _));refine blk_far ?_ NB208_223.out _;(with_reducible repeat (first|refine kN ?_ _|refine kD ?_|refine kA ?_ _));refine blk_far ?_ NB208_223.out _;(with_reducible repeat (first|refine kN ?_ _|refine kD ?_|refine kA ?_ _));refine blk_far ?_ NB208_223.out _;(with_reducible repeat (first|refine kN ?_ _|refine kD ?_|refine kA ?_ _));refine blk_far ?_ NB208_223.out _;(with_reducible repeat (first|refine kN ?_ _|refine kD ?_|refine kA ?_ _));refine blk_far ?_ NB208_222.out _;(with_reducible repeat (first|refine kN ?_ _|refine kD ?_|refine kA ?_ _));refine blk_far ?_ NB208_222.out _;(with_reducible repeat (first|refine kN ?_ _|refine kD ?_|refine kA ?_ _));refine blk_far ?_ NB208_222.out _;(with_reducible repeat (first|refine kN ?_ _|refine kD ?_|refine kA ?_ _));refine blk_far ?_ NB208_222.out _;(with_reducible repeat (first|refine kN ?_ _|refine kD ?_|refine kA ?_ _));exact BK208.out)) : gb208 ≠ gb224));have n12_:=Ak ((by rw [hg];exact Nat.ne_of_gt (blk_lt (g:=gb208) (o:=.cells #[.int .i64 a1_0,.int .i64 a1_1,.int .i64 a1_2,.int .i64 a1_3] 35 (0,0)) (by (with_reducible repeat (first|refine kN ?_ _|refine kD ?_|refine kA ?_ _));refine blk_far ?_ NB208_223.out _;(with_reducible repeat (first|refine kN ?_ _|refine kD ?_|refine kA ?_ _));refine blk_far ?_ NB208_223.out _;(with_reducible repeat (first|refine kN ?_ _|refine kD ?_|refine kA ?_ _));refine blk_far ?_ NB208_223.out _;(with_reducible repeat (first|refine kN ?_ _|refine kD ?_|refine kA ?_ _));refine blk_far ?_ NB208_223.out _;(with_reducible repeat (first|refine kN ?_ _|refine kD ?_|refine kA ?_ _));refine blk_far ?_ NB208_222.out _;(with_reducible repeat (first|refine kN ?_ _|refine kD ?_|refine kA ?_ _));refine blk_far ?_ NB208_222.out _;(with_reducible repeat (first|refine kN ?_ _|refine kD ?_|refine kA ?_ _));refine blk_far ?_ NB208_222.out _;(with_reducible repeat (first|refine kN ?_ _|refine kD ?_|refine kA ?_ _));refine blk_far ?_ NB208_222.out _;(with_reducible repeat (first|refine kN ?_ _|refine kD ?_|refine kA ?_ _));exact BK208.out)) : gb224 ≠ gb208));have n13_:=Ak ((by rw [hg];exact Nat.ne_of_lt (blk_lt (g:=gb209) (o:=.cells #[.int .u64 0,.int .u64 0,.int .u64 0,.int .u64 0] 79 (0,0)) (by (with_reducible repeat (first|refine kN ?_ _|refine kD ?_|refine kA ?_ _));refine blk_far ?_ NB209_223.out _;(with_reducible repeat (first|refine kN ?_ _|refine kD ?_|refine kA ?_ _));refine blk_far ?_ NB209_223.out _;(with_reducible repeat (first|refine kN ?_ _|refine kD ?_|refine kA ?_ _));refine blk_far ?_ NB209_223.out _;(with_reducible repeat (first|refine kN ?_ _|refine kD ?_|refine kA ?_ _));refine blk_far ?_ NB209_223.out _;(with_reducible repeat (first|refine kN ?_ _|refine kD ?_|refine kA ?_ _));refine blk_far ?_ NB209_222.out _;(with_reducible repeat (first|refine kN ?_ _|refine kD ?_|refine kA ?_ _));refine blk_far ?_ NB209_222.out _;(with_reducible repeat (first|refine kN ?_ _|refine kD ?_|refine kA ?_ _));refine blk_far ?_ NB209_222.out _;(with_reducible repeat (first|refine kN ?_ _|refine kD ?_|refine kA ?_ _));refine blk_far ?_ NB209_222.out _;(with_reducible repeat (first|refine kN ?_ _|refine kD ?_|refine kA ?_ _));exact BK209.out)) : gb209 ≠ gb224));have n14_:=Ak ((by rw [hg];exact Nat.ne_of_gt (blk_lt (g:=gb209) (o:=.cells #[.int .u64 0,.int .u64 0,.int .u64 0,.int .u64 0] 79 (0,0)) (by (with_reducible repeat (first|refine kN ?_ _|refine kD ?_|refine kA ?_ _));refine blk_far ?_ NB209_223.out _;(with_reducible repeat (first|refine kN ?_ _|refine kD ?_|refine kA ?_ _));refine blk_far ?_ NB209_223.out _;(with_reducible repeat (first|refine kN ?_ _|refine kD ?_|refine kA ?_ _));refine blk_far ?_ NB209_223.out _;(with_reducible repeat (first|refine kN ?_ _|refine kD ?_|refine kA ?_ _));refine blk_far ?_ NB209_223.out _;(with_reducible repeat (first|refine kN ?_ _|refine kD ?_|refine kA ?_ _));refine blk_far ?_ NB209_222.out _;(with_reducible repeat (first|refine kN ?_ _|refine kD ?_|refine kA ?_ _));refine blk_far ?_ NB209_222.out _;(with_reducible repeat (first|refine kN ?_ _|refine kD ?_|refine kA ?_ _));refine blk_far ?_ NB209_222.out _;(with_reducible repeat (first|refine kN ?_ _|refine kD ?_|refine kA ?_ _));refine blk_far ?_ NB209_222.out _;(with_reducible repeat (first|refine kN ?_ _|refine kD ?_|refine kA ?_ _));exact BK209.out)) : gb224 ≠ gb209));have n15_:=Ak ((by rw [hg];exact Nat.ne_of_lt (blk_lt (g:=gb222) (o:=.cells #[.int .u64 t214,.int .u64 t215,.int .u64 t216,.int .u64 t217] 79 (0,0)) (by (with_reducible repeat (first|refine kN ?_ _|refine kD ?_|refine kA ?_ _));refine blk_far ?_ NB222_223.out _;(with_reducible repeat (first|refine kN ?_ _|refine kD ?_|refine kA ?_ _));refine blk_far ?_ NB222_223.out _;(with_reducible repeat (first|refine kN ?_ _|refine kD ?_|refine kA ?_ _));refine blk_far ?_ NB222_223.out _;(with_reducible repeat (first|refine kN ?_ _|refine kD ?_|refine kA ?_ _));refine blk_far ?_ NB222_223.out _;(with_reducible repeat (first|refine kN ?_ _|refine kD ?_|refine kA ?_ _));refine blk_put (cs:=#[.int .u64 t214,.int .u64 t215,.int .u64 t216,.int .u64 0]) ?_ 3 _ rfl;(with_reducible repeat (first|refine kN ?_ _|refine kD ?_|refine kA ?_ _));refine blk_put (cs:=#[.int .u64 t214,.int .u64 t215,.int .u64 0,.int .u64 0]) ?_ 2 _ rfl;(with_reducible repeat (first|refine kN ?_ _|refine kD ?_|refine kA ?_ _));refine blk_put (cs:=#[.int .u64 t214,.int .u64 0,.int .u64 0,.int .u64 0]) ?_ 1 _ rfl;(with_reducible repeat (first|refine kN ?_ _|refine kD ?_|refine kA ?_ _));refine blk_put (cs:=#[.int .u64 0,.int .u64 0,.int .u64 0,.int .u64 0]) ?_ 0 _ rfl;(with_reducible repeat (first|refine kN ?_ _|refine kD ?_|refine kA ?_ _));exact BK222.out)) : gb222 ≠ gb224));have n16_:=Ak ((by rw [hg];exact Nat.ne_of_gt (blk_lt (g:=gb222) (o:=.cells #[.int .u64 t214,.int .u64 t215,.int .u64 t216,.int .u64 t217] 79 (0,0)) (by (with_reducible repeat (first|refine kN ?_ _|refine kD ?_|refine kA ?_ _));refine blk_far ?_ NB222_223.out _;(with_reducible repeat (first|refine kN ?_ _|refine kD ?_|refine kA ?_ _));refine blk_far ?_ NB222_223.out _;(with_reducible repeat (first|refine kN ?_ _|refine kD ?_|refine kA ?_ _));refine blk_far ?_ NB222_223.out _;(with_reducible repeat (first|refine kN ?_ _|refine kD ?_|refine kA ?_ _));refine blk_far ?_ NB222_223.out _;(with_reducible repeat (first|refine kN ?_ _|refine kD ?_|refine kA ?_ _));refine blk_put (cs:=#[.int .u64 t214,.int .u64 t215,.int .u64 t216,.int .u64 0]) ?_ 3 _ rfl;(with_reducible repeat (first|refine kN ?_ _|refine kD ?_|refine kA ?_ _));refine blk_put (cs:=#[.int .u64 t214,.int .u64 t215,.int .u64 0,.int .u64 0]) ?_ 2 _ rfl;(with_reducible repeat (first|refine kN ?_ _|refine kD ?_|refine kA ?_ _));refine blk_put (cs:=#[.int .u64 t214,.int .u64 0,.int .u64 0,.int .u64 0]) ?_ 1 _ rfl;(with_reducible repeat (first|refine kN ?_ _|refine kD ?_|refine kA ?_ _));refine blk_put (cs:=#[.int .u64 0,.int .u64 0,.int .u64 0,.int .u64 0]) ?_ 0 _ rfl;(with_reducible repeat (first|refine kN ?_ _|refine kD ?_|refine kA ?_ _));exact BK222.out)) : gb224 ≠ gb222));have n17_:=Ak ((by rw [hg];exact Nat.ne_of_lt (blk_lt (g:=gb223) (o:=.cells #[.int .u64 t218,.int .u64 t219,.int .u64 t220,.int .u64 t221] 79 (0,0)) (by (with_reducible repeat (first|refine kN ?_ _|refine kD ?_|refine kA ?_ _));refine blk_put (cs:=#[.int .u64 t218,.int .u64 t219,.int .u64 t220,.int .u64 0]) ?_ 3 _ rfl;(with_reducible repeat (first|refine kN ?_ _|refine kD ?_|refine kA ?_ _));refine blk_put (cs:=#[.int .u64 t218,.int .u64 t219,.int .u64 0,.int .u64 0]) ?_ 2 _ rfl;(with_reducible repeat (first|refine kN ?_ _|refine kD ?_|refine kA ?_ _));refine blk_put (cs:=#[.int .u64 t218,.int .u64 0,.int .u64 0,.int .u64 0]) ?_ 1 _ rfl;(with_reducible repeat (first|refine kN ?_ _|refine kD ?_|refine kA ?_ _));refine blk_put (cs:=#[.int .u64 0,.int .u64 0,.int .u64 0,.int .u64 0]) ?_ 0 _ rfl;(with_reducible repeat (first|refine kN ?_ _|refine kD ?_|refine kA ?_ _));refine blk_far ?_ NB223_222.out _;(with_reducible repeat (first|refine kN ?_ _|refine kD ?_|refine kA ?_ _));refine blk_far ?_ NB223_222.out _;(with_reducible repeat (first|refine kN ?_ _|refine kD ?_|refine kA ?_ _));refine blk_far ?_ NB223_222.out _;(with_reducible repeat (first|refine kN ?_ _|refine kD ?_|refine kA ?_ _));refine blk_far ?_ NB223_222.out _;(with_reducible repeat (first|refine kN ?_ _|refine kD ?_|refine kA ?_ _));exact BK223.out)) : gb223 ≠ gb224));have n18_:=Ak ((by rw [hg];exact Nat.ne_of_gt (blk_lt (g:=gb223) (o:=.cells #[.int .u64 t218,.int .u64 t219,.int .u64 t220,.int .u64 t221] 79 (0,0)) (by (with_reducible repeat (first|refine kN ?_ _|refine kD ?_|refine kA ?_ _));refine blk_put (cs:=#[.int .u64 t218,.int .u64 t219,.int .u64 t220,.int .u64 0]) ?_ 3 _ rfl;(with_reducible repeat (first|refine kN ?_ _|refine kD ?_|refine kA ?_ _));refine blk_put (cs:=#[.int .u64 t218,.int .u64 t219,.int .u64 0,.int .u64 0]) ?_ 2 _ rfl;(with_reducible repeat (first|refine kN ?_ _|refine kD ?_|refine kA ?_ _));refine blk_put (cs:=#[.int .u64 t218,.int .u64 0,.int .u64 0,.int .u64 0]) ?_ 1 _ rfl;(with_reducible repeat (first|refine kN ?_ _|refine kD ?_|refine kA ?_ _));refine blk_put (cs:=#[.int .u64 0,.int .u64 0,.int .u64 0,.int .u64 0]) ?_ 0 _ rfl;(with_reducible repeat (first|refine kN ?_ _|refine kD ?_|refine kA ?_ _));refine blk_far ?_ NB223_222.out _;(with_reducible repeat (first|refine kN ?_ _|refine kD ?_|refine kA ?_ _));refine blk_far ?_ NB223_222.out _;(with_reducible repeat (first|refine kN ?_ _|refine kD ?_|refine kA ?_ _));refine blk_far ?_ NB223_222.out _;(with_reducible repeat (first|refine kN ?_ _|refine kD ?_|refine kA ?_ _));refine blk_far ?_ NB223_222.out _;(with_reducible repeat (first|refine kN ?_ _|refine kD ?_|refine kA ?_ _));exact BK223.out)) : gb224 ≠ gb223));clear BK207 BK208 BK209 BK222 BK223 HB;have BK207:=n0_;have BK208:=n1_;have BK209:=n2_;have BK222:=n3_;have BK223:=n4_;have HB:=n5_;have BK224:=n6_;have GW224:=n7_;have GE224:=n8_;have NB207_224:=n9_;have NB224_207:=n10_;have NB208_224:=n11_;have NB224_208:=n12_;have NB209_224:=n13_;have NB224_209:=n14_;have NB222_224:=n15_;have NB224_222:=n16_;have NB223_224:=n17_;have NB224_223:=n18_;clear n0_ n1_ n2_ n3_ n4_ n5_ n6_ n7_ n8_ n9_ n10_ n11_ n12_ n13_ n14_ n15_ n16_ n17_ n18_;clear hb hbox hg;have hnb27:=NB222_207.out;have hnc27:=NB207_222.out;have hnb28:=NB222_208.out;have hnc28:=NB208_222.out;have hnb29:=NB222_209.out;have hnc29:=NB209_222.out;have hnb30:=NB222_223.out;have hnc30:=NB223_222.out;have hnb31:=NB222_224.out;have hnc31:=NB224_222.out;have hcz32_0 : w26.cell? ⟨gb222,0,none⟩ = some (.int .u64 t214):=(kC BK222.out 0).trans rfl;have hcz32_1 : w26.cell? ⟨gb222,1,none⟩ = some (.int .u64 t215):=(kC BK222.out 1).trans rfl;have hcz32_2 : w26.cell? ⟨gb222,2,none⟩ = some (.int .u64 t216):=(kC BK222.out 2).trans rfl;have hcz32_3 : w26.cell? ⟨gb222,3,none⟩ = some (.int .u64 t217):=(kC BK222.out 3).trans rfl;have hfz32_0:=blk_frozen BK222.out 0;have hfz32_1:=blk_frozen BK222.out 1;have hfz32_2:=blk_frozen BK222.out 2;have hfz32_3:=blk_frozen BK222.out 3;have hnb33:=NB223_207.out;have hnc33:=NB207_223.out;have hnb34:=NB223_208.out;have hnc34:=NB208_223.out;have hnb35:=NB223_209.out;have hnc35:=NB209_223.out;have hnb36:=NB223_224.out;have hnc36:=NB224_223.out;have hcz37_0 : w26.cell? ⟨gb223,0,none⟩ = some (.int .u64 t218):=(kC BK223.out 0).trans rfl;have hcz37_1 : w26.cell? ⟨gb223,1,none⟩ = some (.int .u64 t219):=(kC BK223.out 1).trans rfl;have hcz37_2 : w26.cell? ⟨gb223,2,none⟩ = some (.int .u64 t220):=(kC BK223.out 2).trans rfl;have hcz37_3 : w26.cell? ⟨gb223,3,none⟩ = some (.int .u64 t221):=(kC BK223.out 3).trans rfl;have hfz37_0:=blk_frozen BK223.out 0;have hfz37_1:=blk_frozen BK223.out 1;have hfz37_2:=blk_frozen BK223.out 2;have hfz37_3:=blk_frozen BK223.out 3)|((with_reducible refine gate_callee (f:=29) rfl ?_);refine goesL_ (some 19) rfl rfl Try.func29 (by kernel_rfl) rfl #[.agg #[.int .u64 t214,.int .u64 t215],.agg #[.int .u64 t218,.int .u64 t219]] rfl (by (try simp only [List.map_toArray,List.map_cons,List.map_nil]);first|done|rfl|(simp only [List.length_drop,List.length_take];rfl)) ?_;(with_reducible refine (wide_Sub.calls t214 t215 t218 t219 t225 t226 t227 _ A6.out).mono ?_);rintro e w38 ⟨rfl,hb⟩;refine ⟨_,rfl,?_⟩;have n0_:=Kb BK207 hb;have n1_:=Kb BK208 hb;have n2_:=Kb BK209 hb;have n3_:=Kb BK222 hb;have n4_:=Kb BK223 hb;have n5_:=Kb BK224 hb;have n6_:=Ak (below_step (by repeat (first|(with_reducible first|exact HB.out|apply bA|apply bN|apply bD|refine bS ?_ GE207.out|refine bS ?_ GE208.out|refine bS ?_ GE209.out|refine bS ?_ GE222.out|refine bS ?_ GE223.out|refine bS ?_ GE224.out)|exact HB.out)) hb);clear BK207 BK208 BK209 BK222 BK223 BK224 HB;have BK207:=n0_;have BK208:=n1_;have BK209:=n2_;have BK222:=n3_;have BK223:=n4_;have BK224:=n5_;have HB:=n6_;clear n0_ n1_ n2_ n3_ n4_ n5_ n6_;(try clear hb);(try clear hb2);(try clear hk);(try clear hi);have hnb39:=NB224_207.out;have hnc39:=NB207_224.out;have hnb40:=NB224_208.out;have hnc40:=NB208_224.out;have hnb41:=NB224_209.out;have hnc41:=NB209_224.out;have hcz42_0 : w38.cell? ⟨gb224,0,none⟩ = some (.int .u64 0):=(kC BK224.out 0).trans rfl;have hcz42_1 : w38.cell? ⟨gb224,1,none⟩ = some (.int .u64 0):=(kC BK224.out 1).trans rfl;have hcz42_2 : w38.cell? ⟨gb224,2,none⟩ = some (.int .u64 0):=(kC BK224.out 2).trans rfl;have hcz42_3 : w38.cell? ⟨gb224,3,none⟩ = some (.int .u64 0):=(kC BK224.out 3).trans rfl;have hfz42_0:=blk_frozen BK224.out 0;have hfz42_1:=blk_frozen BK224.out 1;have hfz42_2:=blk_frozen BK224.out 2;have hfz42_3:=blk_frozen BK224.out 3;have hcz43_0 : w38.cell? ⟨gb222,0,none⟩ = some (.int .u64 t214):=(kC BK222.out 0).trans rfl;have hcz43_1 : w38.cell? ⟨gb222,1,none⟩ = some (.int .u64 t215):=(kC BK222.out 1).trans rfl;have hcz43_2 : w38.cell? ⟨gb222,2,none⟩ = some (.int .u64 t216):=(kC BK222.out 2).trans rfl;have hcz43_3 : w38.cell? ⟨gb222,3,none⟩ = some (.int .u64 t217):=(kC BK222.out 3).trans rfl;have hfz43_0:=blk_frozen BK222.out 0;have hfz43_1:=blk_frozen BK222.out 1;have hfz43_2:=blk_frozen BK222.out 2;have hfz43_3:=blk_frozen BK222.out 3;have hcz44_0 : w38.cell? ⟨gb223,0,none⟩ = some (.int .u64 t218):=(kC BK223.out 0).trans rfl;have hcz44_1 : w38.cell? ⟨gb223,1,none⟩ = some (.int .u64 t219):=(kC BK223.out 1).trans rfl;have hcz44_2 : w38.cell? ⟨gb223,2,none⟩ = some (.int .u64 t220):=(kC BK223.out 2).trans rfl;have hcz44_3 : w38.cell? ⟨gb223,3,none⟩ = some (.int .u64 t221):=(kC BK223.out 3).trans rfl;have hfz44_0:=blk_frozen BK223.out 0;have hfz44_1:=blk_frozen BK223.out 1;have hfz44_2:=blk_frozen BK223.out 2;have hfz44_3:=blk_frozen BK223.out 3)|((with_reducible refine gate_callee (f:=29) rfl ?_);refine goesL_ (some 28) rfl rfl Try.func29 (by kernel_rfl) rfl #[.agg #[.int .u64 t216,.int .u64 t217],.agg #[.int .u64 t220,.int .u64 t221]] rfl (by (try simp only [List.map_toArray,List.map_cons,List.map_nil]);first|done|rfl|(simp only [List.length_drop,List.length_take];rfl)) ?_;(with_reducible refine (wide_Sub.calls t216 t217 t220 t221 t228 t229 t230 _ A7.out).mono ?_);rintro e w45 ⟨rfl,hb⟩;refine ⟨_,rfl,?_⟩;have n0_:=Ak (kB (g:=gb207) (o:=.cells #[.int .i64 a0_0,.int .i64 a0_1,.int .i64 a0_2,.int .i64 a0_3] 35 (0,0)) (by (with_reducible repeat (first|refine kN ?_ _|refine kD ?_|refine kA ?_ _));refine blk_far ?_ NB207_224.out _;(with_reducible repeat (first|refine kN ?_ _|refine kD ?_|refine kA ?_ _));refine blk_far ?_ NB207_224.out _;(with_reducible repeat (first|refine kN ?_ _|refine kD ?_|refine kA ?_ _));exact BK207.out) hb);have n1_:=Ak (kB (g:=gb208) (o:=.cells #[.int .i64 a1_0,.int .i64 a1_1,.int .i64 a1_2,.int .i64 a1_3] 35 (0,0)) (by (with_reducible repeat (first|refine kN ?_ _|refine kD ?_|refine kA ?_ _));refine blk_far ?_ NB208_224.out _;(with_reducible repeat (first|refine kN ?_ _|refine kD ?_|refine kA ?_ _));refine blk_far ?_ NB208_224.out _;(with_reducible repeat (first|refine kN ?_ _|refine kD ?_|refine kA ?_ _));exact BK208.out) hb);have n2_:=Ak (kB (g:=gb209) (o:=.cells #[.int .u64 0,.int .u64 0,.int .u64 0,.int .u64 0] 79 (0,0)) (by (with_reducible repeat (first|refine kN ?_ _|refine kD ?_|refine kA ?_ _));refine blk_far ?_ NB209_224.out _;(with_reducible repeat (first|refine kN ?_ _|refine kD ?_|refine kA ?_ _));refine blk_far ?_ NB209_224.out _;(with_reducible repeat (first|refine kN ?_ _|refine kD ?_|refine kA ?_ _));exact BK209.out) hb);have n3_:=Ak (kB (g:=gb222) (o:=.cells #[.int .u64 t214,.int .u64 t215,.int .u64 t216,.int .u64 t217] 79 (0,0)) (by (with_reducible repeat (first|refine kN ?_ _|refine kD ?_|refine kA ?_ _));refine blk_far ?_ NB222_224.out _;(with_reducible repeat (first|refine kN ?_ _|refine kD ?_|refine kA ?_ _));refine blk_far ?_ NB222_224.out _;(with_reducible repeat (first|refine kN ?_ _|refine kD ?_|refine kA ?_ _));exact BK222.out) hb);have n4_:=Ak (kB (g:=gb223) (o:=.cells #[.int .u64 t218,.int .u64 t219,.int .u64 t220,.int .u64 t221] 79 (0,0)) (by (with_reducible repeat (first|refine kN ?_ _|refine kD ?_|refine kA ?_ _));refine blk_far ?_ NB223_224.out _;(with_reducible repeat (first|refine kN ?_ _|refine kD ?_|refine kA ?_ _));refine blk_far ?_ NB223_224.out _;(with_reducible repeat (first|refine kN ?_ _|refine kD ?_|refine kA ?_ _));exact BK223.out) hb);have n5_:=Ak (kB (g:=gb224) (o:=.cells #[.int .u64 t225,.int .u64 t226,.int .u64 0,.int .u64 0] 79 (0,0)) (by (with_reducible repeat (first|refine kN ?_ _|refine kD ?_|refine kA ?_ _));refine blk_put (cs:=#[.int .u64 t225,.int .u64 0,.int .u64 0,.int .u64 0]) ?_ 1 _ rfl;(with_reducible repeat (first|refine kN ?_ _|refine kD ?_|refine kA ?_ _));refine blk_put (cs:=#[.int .u64 0,.int .u64 0,.int .u64 0,.int .u64 0]) ?_ 0 _ rfl;(with_reducible repeat (first|refine kN ?_ _|refine kD ?_|refine kA ?_ _));exact BK224.out) hb);have n6_:=Ak (below_step (by repeat (first|(with_reducible first|exact HB.out|apply bA|apply bN|apply bD|refine bS ?_ GE207.out|refine bS ?_ GE208.out|refine bS ?_ GE209.out|refine bS ?_ GE222.out|refine bS ?_ GE223.out|refine bS ?_ GE224.out)|exact HB.out)) hb);clear BK207 BK208 BK209 BK222 BK223 BK224 HB;have BK207:=n0_;have BK208:=n1_;have BK209:=n2_;have BK222:=n3_;have BK223:=n4_;have BK224:=n5_;have HB:=n6_;clear n0_ n1_ n2_ n3_ n4_ n5_ n6_;(try clear hb);(try clear hb2);(try clear hk);(try clear hi);have hcz46_0 : w45.cell? ⟨gb224,0,none⟩ = some (.int .u64 t225):=(kC BK224.out 0).trans rfl;have hcz46_1 : w45.cell? ⟨gb224,1,none⟩ = some (.int .u64 t226):=(kC BK224.out 1).trans rfl;have hcz46_2 : w45.cell? ⟨gb224,2,none⟩ = some (.int .u64 0):=(kC BK224.out 2).trans rfl;have hcz46_3 : w45.cell? ⟨gb224,3,none⟩ = some (.int .u64 0):=(kC BK224.out 3).trans rfl;have hfz46_0:=blk_frozen BK224.out 0;have hfz46_1:=blk_frozen BK224.out 1;have hfz46_2:=blk_frozen BK224.out 2;have hfz46_3:=blk_frozen BK224.out 3;have hnb47:=NB209_207.out;have hnc47:=NB207_209.out;have hnb48:=NB209_208.out;have hnc48:=NB208_209.out;have hcz49_0 : w45.cell? ⟨gb209,0,none⟩ = some (.int .u64 0):=(kC BK209.out 0).trans rfl;have hcz49_1 : w45.cell? ⟨gb209,1,none⟩ = some (.int .u64 0):=(kC BK209.out 1).trans rfl;have hcz49_2 : w45.cell? ⟨gb209,2,none⟩ = some (.int .u64 0):=(kC BK209.out 2).trans rfl;have hcz49_3 : w45.cell? ⟨gb209,3,none⟩ = some (.int .u64 0):=(kC BK209.out 3).trans rfl;have hfz49_0:=blk_frozen BK209.out 0;have hfz49_1:=blk_frozen BK209.out 1;have hfz49_2:=blk_frozen BK209.out 2;have hfz49_3:=blk_frozen BK209.out 3))
 refine bodyPost_ret (results_cell_row rfl _ _ gb209 79 #[.int .u64 t225,.int .u64 t226,.int .u64 t228,.int .u64 t229] (0,0) _ rfl (by (with_reducible repeat (first|refine kN ?_ _|refine kD ?_|refine kA ?_ _));refine blk_put (cs:=#[.int .u64 t225,.int .u64 t226,.int .u64 t228,.int .u64 0]) ?_ 3 _ rfl;(with_reducible repeat (first|refine kN ?_ _|refine kD ?_|refine kA ?_ _));refine blk_put (cs:=#[.int .u64 t225,.int .u64 t226,.int .u64 0,.int .u64 0]) ?_ 2 _ rfl;(with_reducible repeat (first|refine kN ?_ _|refine kD ?_|refine kA ?_ _));refine blk_put (cs:=#[.int .u64 t225,.int .u64 0,.int .u64 0,.int .u64 0]) ?_ 1 _ rfl;(with_reducible repeat (first|refine kN ?_ _|refine kD ?_|refine kA ?_ _));refine blk_put (cs:=#[.int .u64 0,.int .u64 0,.int .u64 0,.int .u64 0]) ?_ 0 _ rfl;(with_reducible repeat (first|refine kN ?_ _|refine kD ?_|refine kA ?_ _));refine blk_far ?_ NB209_224.out _;(with_reducible repeat (first|refine kN ?_ _|refine kD ?_|refine kA ?_ _));refine blk_far ?_ NB209_224.out _;(with_reducible repeat (first|refine kN ?_ _|refine kD ?_|refine kA ?_ _));exact BK209.out) Try.underlying79 rfl (by kernel_rfl)) rfl ?_
 exact ⟨by first|rfl|(simp [errW_none,errW_some] <;> rfl)|(simp [*,errW_none,errW_some] <;> rfl),by repeat (first|(with_reducible first|exact HB.out|apply bA|apply bN|apply bD|refine bS ?_ GE207.out|refine bS ?_ GE208.out|refine bS ?_ GE209.out|refine bS ?_ GE222.out|refine bS ?_ GE223.out|refine bS ?_ GE224.out)|exact HB.out)⟩
end Go.Proofs.Ythlhmijgbjcloaa.A
end
