/- What the row of this claim reaches. No condition. -/
import Derived.Laws.BytesArg
import Derived.WalkKit
import Derived.StillTailTactics
import Derived.Deep.RegionHeld3
import Derived.Laws.Bits64b
import Derived.Test.YthlhmijgbjcloaaCX0
set_option linter.unusedVariables false
set_option linter.unusedSimpArgs false
section
namespace Go.Proofs.Ythlhmijgbjcloaa.A
open Go.RowKit Go.Proofs.YthlhmijgbjcloaaW.PrintWords Go.Proofs.YthlhmijgbjcloaaW.PrintLast Go.Proofs.YthlhmijgbjcloaaW.PrintMore
attribute [local go_sem] max2_int min2_int max_two min_two max_three min_three max_four min_four   -- for this text's walks alone
def key_grows.f (a0_0 : Int) (a0_1 : Int) (a0_2 : Int) (a0_3 : Int) (a1_0 : Int) (a1_1 : Int) (a1_2 : Int) (a1_3 : Int) : Option (Int × Int × Int × Int) := (key_Union.f a0_0 a0_1 a0_2 a0_3 a1_0 a1_1 a1_2 a1_3).bind fun bt210 => ((key_of.f bt210.1 bt210.2.1 bt210.2.2.1 bt210.2.2.2).bind fun bt214 => ((key_of.f a0_0 a0_1 a0_2 a0_3).bind fun bt218 => ((wide_Sub.f bt214.1 bt214.2.1 bt218.1 bt218.2.1).bind fun bt225 => ((wide_Sub.f bt214.2.2.1 bt214.2.2.2 bt218.2.2.1 bt218.2.2.2).bind fun bt228 => (some (bt225.1, bt225.2.1, bt228.1, bt228.2.1))))))
def key_grows.T1 : Bool × List (List Nat × List Nat) := (true, [([], []), ([], []), ([0, 1], [0, 1]), ([2, 2], [2]), ([], []), ([4, 3], [4]), ([], []), ([], []), ([6, 3, 5, 0, 1, 2, 3, 6, 7], [3, 6]), ([7, 5, 8, 0, 1, 2, 3, 4, 5, 6, 7, 8], [5, 7])])
def key_grows.B1 : List Nat := [0, 0, 3, 7, 0, 31, 0, 0, 255, 511]
theorem key_grows.tab1 : rtab .any (opsOf Try.f58 1) = key_grows.T1 := by kernel_rfl
theorem key_grows.bits1 : waitsOk key_grows.T1.2 key_grows.B1 = true := by kernel_rfl
set_option maxHeartbeats 8000000 in
set_option maxRecDepth 100000 in
theorem key_grows.calls (a0_0 : Int) (a0_1 : Int) (a0_2 : Int) (a0_3 : Int) (a1_0 : Int) (a1_1 : Int) (a1_2 : Int) (a1_3 : Int) (r1 : Int) (r2 : Int) (r3 : Int) (r4 : Int) (w : World) (h : key_grows.f a0_0 a0_1 a0_2 a0_3 a1_0 a1_1 a1_2 a1_3 = some (r1,r2,r3,r4)) :
  Calls Try.prog 58 #[.agg #[.int .i64 a0_0,.int .i64 a0_1,.int .i64 a0_2,.int .i64 a0_3],.agg #[.int .i64 a1_0,.int .i64 a1_1,.int .i64 a1_2,.int .i64 a1_3]] w fun e w' => e = .returned (.agg #[.int .u64 r1,.int .u64 r2,.int .u64 r3,.int .u64 r4])∧Below w.heap.size w w':=by
 have hu35:=Try.underlying35
 have hu79:=Try.underlying79
 have hu25:=Try.underlying25
 have HB:=Ak (Below.refl w.heap.size w)
 have H : ((key_Union.f a0_0 a0_1 a0_2 a0_3 a1_0 a1_1 a1_2 a1_3).bind fun bt210 => ((key_of.f bt210.1 bt210.2.1 bt210.2.2.1 bt210.2.2.2).bind fun bt214 => ((key_of.f a0_0 a0_1 a0_2 a0_3).bind fun bt218 => ((wide_Sub.f bt214.1 bt214.2.1 bt218.1 bt218.2.1).bind fun bt225 => ((wide_Sub.f bt214.2.2.1 bt214.2.2.2 bt218.2.2.1 bt218.2.2.2).bind fun bt228 => (some (bt225.1,bt225.2.1,bt228.1,bt228.2.1))))))) = some (r1,r2,r3,r4):=h
 clear h
 replace H:=Option.bind_eq_some_iff.mp H
 obtain ⟨⟨t210,t211,t212,t213⟩,A30,H⟩:=H
 replace H : ((key_of.f t210 t211 t212 t213).bind fun bt214 => ((key_of.f a0_0 a0_1 a0_2 a0_3).bind fun bt218 => ((wide_Sub.f bt214.1 bt214.2.1 bt218.1 bt218.2.1).bind fun bt225 => ((wide_Sub.f bt214.2.2.1 bt214.2.2.2 bt218.2.2.1 bt218.2.2.2).bind fun bt228 => (some (bt225.1,bt225.2.1,bt228.1,bt228.2.1)))))) = some (r1,r2,r3,r4):=H
 have A3:=Ak A30
 clear A30
 replace H:=Option.bind_eq_some_iff.mp H
 obtain ⟨⟨t214,t215,t216,t217⟩,A40,H⟩:=H
 replace H : ((key_of.f a0_0 a0_1 a0_2 a0_3).bind fun bt218 => ((wide_Sub.f t214 t215 bt218.1 bt218.2.1).bind fun bt225 => ((wide_Sub.f t216 t217 bt218.2.2.1 bt218.2.2.2).bind fun bt228 => (some (bt225.1,bt225.2.1,bt228.1,bt228.2.1))))) = some (r1,r2,r3,r4):=H
 have A4:=Ak A40
 clear A40
 replace H:=Option.bind_eq_some_iff.mp H
 obtain ⟨⟨t218,t219,t220,t221⟩,A50,H⟩:=H
 replace H : ((wide_Sub.f t214 t215 t218 t219).bind fun bt225 => ((wide_Sub.f t216 t217 t220 t221).bind fun bt228 => (some (bt225.1,bt225.2.1,bt228.1,bt228.2.1)))) = some (r1,r2,r3,r4):=H
 have A5:=Ak A50
 clear A50
 replace H:=Option.bind_eq_some_iff.mp H
 obtain ⟨⟨t225,t226,t227⟩,A60,H⟩:=H
 replace H : ((wide_Sub.f t216 t217 t220 t221).bind fun bt228 => (some (t225,t226,bt228.1,bt228.2.1))) = some (r1,r2,r3,r4):=H
 have A6:=Ak A60
 clear A60
 replace H:=Option.bind_eq_some_iff.mp H
 obtain ⟨⟨t228,t229,t230⟩,A70,H⟩:=H
 replace H : (some (t225,t226,t228,t229)) = some (r1,r2,r3,r4):=H
 have A7:=Ak A70
 clear A70
 simp only [Option.some.injEq,Prod.mk.injEq] at H
 obtain ⟨rfl,rfl,rfl,rfl⟩:=H
 go_enter Try.func58,Try.ntmps58
 try go_wp2_with (first|((with_reducible refine gate_dst (N:=2) rfl ?_);refine box_event ?hg (N:=2) ?hd (cs:=#[.int .i64 a0_0,.int .i64 a0_1,.int .i64 a0_2,.int .i64 a0_3]) (t:=35) ?hr ?_;(case hd => rfl);(case hg => rfl);(case hr => first|(go_simp;done)|(go_simp;rfl));intro gb207 hg w8 hbox hb;have n0_:=Ak (below_step (by repeat (first|(with_reducible first|exact HB.out|apply bA|apply bN|apply bD)|exact HB.out)) hb);have n1_:=Ak (hbox);have n2_:=Ak ((by rw [hg];exact (below_size (by repeat (first|(with_reducible first|exact HB.out|apply bA|apply bN|apply bD)|exact HB.out))) : w.heap.size ≤ gb207));have n3_:=Ak ((by rw [hg];exact (below_size (by repeat (first|(with_reducible first|exact HB.out|apply bA|apply bN|apply bD)|exact HB.out))) : w.heap.size ≤ gb207));clear HB;have HB:=n0_;have BK207:=n1_;have GW207:=n2_;have GE207:=n3_;clear n0_ n1_ n2_ n3_;clear hb hbox hg)|((with_reducible refine gate_dst (N:=3) rfl ?_);refine box_event ?hg (N:=3) ?hd (cs:=#[.int .i64 a1_0,.int .i64 a1_1,.int .i64 a1_2,.int .i64 a1_3]) (t:=35) ?hr ?_;(case hd => rfl);(case hg => rfl);(case hr => first|(go_simp;done)|(go_simp;rfl));intro gb208 hg w9 hbox hb;have n0_:=Ak (kB (g:=gb207) (o:=.cells #[.int .i64 a0_0,.int .i64 a0_1,.int .i64 a0_2,.int .i64 a0_3] 35 (0,0)) (by (with_reducible repeat (first|refine kN ?_ _|refine kD ?_|refine kA ?_ _));exact BK207.out) hb);have n1_:=Ak (below_step (by repeat (first|(with_reducible first|exact HB.out|apply bA|apply bN|apply bD|refine bS ?_ GE207.out)|exact HB.out)) hb);have n2_:=Ak (hbox);have n3_:=Ak ((by rw [hg];exact (below_size (by repeat (first|(with_reducible first|exact HB.out|apply bA|apply bN|apply bD|refine bS ?_ GE207.out)|exact HB.out))) : w.heap.size ≤ gb208));have n4_:=Ak ((by rw [hg];exact (below_size (by repeat (first|(with_reducible first|exact HB.out|apply bA|apply bN|apply bD|refine bS ?_ GE207.out)|exact HB.out))) : w.heap.size ≤ gb208));have n5_:=Ak ((by rw [hg];exact Nat.ne_of_lt (blk_lt (g:=gb207) (o:=.cells #[.int .i64 a0_0,.int .i64 a0_1,.int .i64 a0_2,.int .i64 a0_3] 35 (0,0)) (by (with_reducible repeat (first|refine kN ?_ _|refine kD ?_|refine kA ?_ _));exact BK207.out)) : gb207 ≠ gb208));have n6_:=Ak ((by rw [hg];exact Nat.ne_of_gt (blk_lt (g:=gb207) (o:=.cells #[.int .i64 a0_0,.int .i64 a0_1,.int .i64 a0_2,.int .i64 a0_3] 35 (0,0)) (by (with_reducible repeat (first|refine kN ?_ _|refine kD ?_|refine kA ?_ _));exact BK207.out)) : gb208 ≠ gb207));clear BK207;clear HB;have BK207:=n0_;have HB:=n1_;have BK208:=n2_;have GW208:=n3_;have GE208:=n4_;have NB207_208:=n5_;have NB208_207:=n6_;clear n0_ n1_ n2_ n3_ n4_ n5_ n6_;clear hb hbox hg)|((with_reducible refine gate_dst (N:=4) rfl ?_);refine box_event ?hg (N:=4) ?hd (cs:=#[.int .u64 0,.int .u64 0,.int .u64 0,.int .u64 0]) (t:=79) ?hr ?_;(case hd => rfl);(case hg => rfl);(case hr => first|(go_simp;done)|(go_simp;rfl));intro gb209 hg w10 hbox hb;have n0_:=Ak (kB (g:=gb207) (o:=.cells #[.int .i64 a0_0,.int .i64 a0_1,.int .i64 a0_2,.int .i64 a0_3] 35 (0,0)) (by (with_reducible repeat (first|refine kN ?_ _|refine kD ?_|refine kA ?_ _));exact BK207.out) hb);have n1_:=Ak (kB (g:=gb208) (o:=.cells #[.int .i64 a1_0,.int .i64 a1_1,.int .i64 a1_2,.int .i64 a1_3] 35 (0,0)) (by (with_reducible repeat (first|refine kN ?_ _|refine kD ?_|refine kA ?_ _));exact BK208.out) hb);have n2_:=Ak (below_step (by repeat (first|(with_reducible first|exact HB.out|apply bA|apply bN|apply bD|refine bS ?_ GE207.out|refine bS ?_ GE208.out)|exact HB.out)) hb);have n3_:=Ak (hbox);have n4_:=Ak ((by rw [hg];exact (below_size (by repeat (first|(with_reducible first|exact HB.out|apply bA|apply bN|apply bD|refine bS ?_ GE207.out|refine bS ?_ GE208.out)|exact HB.out))) : w.heap.size ≤ gb209));have n5_:=Ak ((by rw [hg];exact (below_size (by repeat (first|(with_reducible first|exact HB.out|apply bA|apply bN|apply bD|refine bS ?_ GE207.out|refine bS ?_ GE208.out)|exact HB.out))) : w.heap.size ≤ gb209));have n6_:=Ak ((by rw [hg];exact Nat.ne_of_lt (blk_lt (g:=gb207) (o:=.cells #[.int .i64 a0_0,.int .i64 a0_1,.int .i64 a0_2,.int .i64 a0_3] 35 (0,0)) (by (with_reducible repeat (first|refine kN ?_ _|refine kD ?_|refine kA ?_ _));exact BK207.out)) : gb207 ≠ gb209));have n7_:=Ak ((by rw [hg];exact Nat.ne_of_gt (blk_lt (g:=gb207) (o:=.cells #[.int .i64 a0_0,.int .i64 a0_1,.int .i64 a0_2,.int .i64 a0_3] 35 (0,0)) (by (with_reducible repeat (first|refine kN ?_ _|refine kD ?_|refine kA ?_ _));exact BK207.out)) : gb209 ≠ gb207));have n8_:=Ak ((by rw [hg];exact Nat.ne_of_lt (blk_lt (g:=gb208) (o:=.cells #[.int .i64 a1_0,.int .i64 a1_1,.int .i64 a1_2,.int .i64 a1_3] 35 (0,0)) (by (with_reducible repeat (first|refine kN ?_ _|refine kD ?_|refine kA ?_ _));exact BK208.out)) : gb208 ≠ gb209));have n9_:=Ak ((by rw [hg];exact Nat.ne_of_gt (blk_lt (g:=gb208) (o:=.cells #[.int .i64 a1_0,.int .i64 a1_1,.int .i64 a1_2,.int .i64 a1_3] 35 (0,0)) (by (with_reducible repeat (first|refine kN ?_ _|refine kD ?_|refine kA ?_ _));exact BK208.out)) : gb209 ≠ gb208));clear BK207;clear BK208;clear HB;have BK207:=n0_;have BK208:=n1_;have HB:=n2_;have BK209:=n3_;have GW209:=n4_;have GE209:=n5_;have NB207_209:=n6_;have NB209_207:=n7_;have NB208_209:=n8_;have NB209_208:=n9_;clear n0_ n1_ n2_ n3_ n4_ n5_ n6_ n7_ n8_ n9_;clear hb hbox hg))
 have n0_:=Ak (kD BK207.out)
 have n1_:=Ak (kD BK208.out)
 have n2_:=Ak (kD BK209.out)
 have n3_:=Ak (bD HB.out)
 clear BK207
 clear BK208
 clear BK209
 clear HB
 have BK207:=n0_
 have BK208:=n1_
 have BK209:=n2_
 have HB:=n3_
 clear n0_ n1_ n2_ n3_
 refine start_ (n:=10) (S:=fun w' => w'.cell? ⟨gb207,0,none⟩ = some (.int .i64 a0_0)∧w'.cell? ⟨gb207,1,none⟩ = some (.int .i64 a0_1)∧w'.cell? ⟨gb207,2,none⟩ = some (.int .i64 a0_2)∧w'.cell? ⟨gb207,3,none⟩ = some (.int .i64 a0_3)∧w'.cell? ⟨gb208,0,none⟩ = some (.int .i64 a1_0)∧w'.cell? ⟨gb208,1,none⟩ = some (.int .i64 a1_1)∧w'.cell? ⟨gb208,2,none⟩ = some (.int .i64 a1_2)∧w'.cell? ⟨gb208,3,none⟩ = some (.int .i64 a1_3)) (ds:=[]) #[ff,ff,ff,ff,ff,ff,ff,ff,ff,ff] (by kernel_rfl) rfl rfl ⟨(kC BK207.out 0).trans rfl,(kC BK207.out 1).trans rfl,(kC BK207.out 2).trans rfl,(kC BK207.out 3).trans rfl,(kC BK208.out 0).trans rfl,(kC BK208.out 1).trans rfl,(kC BK208.out 2).trans rfl,(kC BK208.out 3).trans rfl⟩ (fun hHeld => ?_);refine with_tabW key_grows.tab1 key_grows.bits1 (fun HT_ HW_ => ?_)
 generalize w10.drew = w11 at BK207 BK208 BK209 HB hHeld ⊢
 refine take_ (i:=0) (N:=some 8) (v:=?_) (a':=?_) #[tt,ff,ff,ff,ff,ff,ff,ff,ff,ff] rfl rfl (take_ofW HT_.out HW_.out (by kernel_rfl)) (fun _ _ _ h => h) (Or.inl ⟨by rfl,?_⟩) hHeld ?_ ?_
 rotate_left
 ·rintro w' ⟨s0,s1,s2,s3,s4,s5,s6,s7⟩
  go_simp
  with_reducible rfl
 rotate_left
 ·simp only [Act.put,sA,sZ,sS,i64_w,i32_w]
  rfl
 refine take_ (i:=1) (N:=some 9) (v:=?_) (a':=?_) #[tt,tt,ff,ff,ff,ff,ff,ff,ff,ff] rfl rfl (take_ofW HT_.out HW_.out (by kernel_rfl)) (fun _ _ _ h => h) (Or.inl ⟨by rfl,?_⟩) hHeld ?_ ?_
 rotate_left
 ·rintro w' ⟨s0,s1,s2,s3,s4,s5,s6,s7⟩
  go_simp
  with_reducible rfl
 rotate_left
 ·simp only [Act.put,sA,sZ,sS,i64_w,i32_w]
  rfl
 refine take_ (i:=4) (N:=some 12) (v:=?_) (a':=?_) #[tt,tt,ff,ff,tt,ff,ff,ff,ff,ff] rfl rfl (take_ofW HT_.out HW_.out (by kernel_rfl)) (fun _ _ _ h => h) (Or.inl ⟨by rfl,?_⟩) hHeld ?_ ?_
 rotate_left
 ·rintro w' ⟨s0,s1,s2,s3,s4,s5,s6,s7⟩
  go_simp
  with_reducible rfl
 rotate_left
 ·simp only [Act.put,sA,sZ,sS,i64_w,i32_w]
  rfl
 refine join_ (σ:=Nat × Nat) 2 #[tt,tt,tt,tt,tt,tt,tt,tt,ff,ff] (fun s_ => [(10,.agg #[.int .i64 t210,.int .i64 t211,.int .i64 t212,.int .i64 t213]),(11,.agg #[.int .u64 t214,.int .u64 t215,.int .u64 t216,.int .u64 t217]),(13,.agg #[.int .u64 t218,.int .u64 t219,.int .u64 t220,.int .u64 t221]),(5,.pointer (some ⟨s_.1,0,none⟩)),(6,.pointer (some ⟨s_.2,0,none⟩))]) (fun s_ w' => (w'.cell? ⟨gb207,0,none⟩ = some (.int .i64 a0_0)∧w'.cell? ⟨gb207,1,none⟩ = some (.int .i64 a0_1)∧w'.cell? ⟨gb207,2,none⟩ = some (.int .i64 a0_2)∧w'.cell? ⟨gb207,3,none⟩ = some (.int .i64 a0_3)∧w'.cell? ⟨gb208,0,none⟩ = some (.int .i64 a1_0)∧w'.cell? ⟨gb208,1,none⟩ = some (.int .i64 a1_1)∧w'.cell? ⟨gb208,2,none⟩ = some (.int .i64 a1_2)∧w'.cell? ⟨gb208,3,none⟩ = some (.int .i64 a1_3))∧(w'.heap[gb207]? = some (.cells #[.int .i64 a0_0,.int .i64 a0_1,.int .i64 a0_2,.int .i64 a0_3] 35 (0,0)))∧(w'.heap[gb208]? = some (.cells #[.int .i64 a1_0,.int .i64 a1_1,.int .i64 a1_2,.int .i64 a1_3] 35 (0,0)))∧(w'.heap[gb209]? = some (.cells #[.int .u64 0,.int .u64 0,.int .u64 0,.int .u64 0] 79 (0,0)))∧(w'.heap[s_.1]? = some (.cells #[.int .u64 0,.int .u64 0,.int .u64 0,.int .u64 0] 79 (0,0)))∧(w'.heap[s_.2]? = some (.cells #[.int .u64 0,.int .u64 0,.int .u64 0,.int .u64 0] 79 (0,0)))∧(w.heap.size ≤ s_.1)∧(w.heap.size ≤ s_.1)∧(gb207 ≠ s_.1)∧(s_.1 ≠ gb207)∧(gb208 ≠ s_.1)∧(s_.1 ≠ gb208)∧(gb209 ≠ s_.1)∧(s_.1 ≠ gb209)∧(s_.2 ≠ s_.1)∧(s_.1 ≠ s_.2)∧(w.heap.size ≤ s_.2)∧(w.heap.size ≤ s_.2)∧(gb207 ≠ s_.2)∧(s_.2 ≠ gb207)∧(gb208 ≠ s_.2)∧(s_.2 ≠ gb208)∧(gb209 ≠ s_.2)∧(s_.2 ≠ gb209)∧(Below w.heap.size w w')) ?_ ?_
 rotate_left
 ·intro hJ2_3_5_6_7
  refine join_ (σ:=Nat) 3 #[tt,tt,tt,tt,tt,tt,tt,ff,ff,ff] (fun s_ => [(10,.agg #[.int .i64 t210,.int .i64 t211,.int .i64 t212,.int .i64 t213]),(11,.agg #[.int .u64 t214,.int .u64 t215,.int .u64 t216,.int .u64 t217]),(13,.agg #[.int .u64 t218,.int .u64 t219,.int .u64 t220,.int .u64 t221]),(5,.pointer (some ⟨s_,0,none⟩))]) (fun s_ w' => (w'.cell? ⟨gb207,0,none⟩ = some (.int .i64 a0_0)∧w'.cell? ⟨gb207,1,none⟩ = some (.int .i64 a0_1)∧w'.cell? ⟨gb207,2,none⟩ = some (.int .i64 a0_2)∧w'.cell? ⟨gb207,3,none⟩ = some (.int .i64 a0_3)∧w'.cell? ⟨gb208,0,none⟩ = some (.int .i64 a1_0)∧w'.cell? ⟨gb208,1,none⟩ = some (.int .i64 a1_1)∧w'.cell? ⟨gb208,2,none⟩ = some (.int .i64 a1_2)∧w'.cell? ⟨gb208,3,none⟩ = some (.int .i64 a1_3))∧(w'.heap[gb207]? = some (.cells #[.int .i64 a0_0,.int .i64 a0_1,.int .i64 a0_2,.int .i64 a0_3] 35 (0,0)))∧(w'.heap[gb208]? = some (.cells #[.int .i64 a1_0,.int .i64 a1_1,.int .i64 a1_2,.int .i64 a1_3] 35 (0,0)))∧(w'.heap[gb209]? = some (.cells #[.int .u64 0,.int .u64 0,.int .u64 0,.int .u64 0] 79 (0,0)))∧(w'.heap[s_]? = some (.cells #[.int .u64 0,.int .u64 0,.int .u64 0,.int .u64 0] 79 (0,0)))∧(w.heap.size ≤ s_)∧(w.heap.size ≤ s_)∧(gb207 ≠ s_)∧(s_ ≠ gb207)∧(gb208 ≠ s_)∧(s_ ≠ gb208)∧(gb209 ≠ s_)∧(s_ ≠ gb209)∧(Below w.heap.size w w')) ?_ ?_
  rotate_left
  ·intro hJ2_3_5_6
   refine join_ (σ:=Nat) 3 #[tt,tt,tt,tt,tt,tt,ff,tt,ff,ff] (fun s_ => [(10,.agg #[.int .i64 t210,.int .i64 t211,.int .i64 t212,.int .i64 t213]),(11,.agg #[.int .u64 t214,.int .u64 t215,.int .u64 t216,.int .u64 t217]),(13,.agg #[.int .u64 t218,.int .u64 t219,.int .u64 t220,.int .u64 t221]),(6,.pointer (some ⟨s_,0,none⟩))]) (fun s_ w' => (w'.cell? ⟨gb207,0,none⟩ = some (.int .i64 a0_0)∧w'.cell? ⟨gb207,1,none⟩ = some (.int .i64 a0_1)∧w'.cell? ⟨gb207,2,none⟩ = some (.int .i64 a0_2)∧w'.cell? ⟨gb207,3,none⟩ = some (.int .i64 a0_3)∧w'.cell? ⟨gb208,0,none⟩ = some (.int .i64 a1_0)∧w'.cell? ⟨gb208,1,none⟩ = some (.int .i64 a1_1)∧w'.cell? ⟨gb208,2,none⟩ = some (.int .i64 a1_2)∧w'.cell? ⟨gb208,3,none⟩ = some (.int .i64 a1_3))∧(w'.heap[gb207]? = some (.cells #[.int .i64 a0_0,.int .i64 a0_1,.int .i64 a0_2,.int .i64 a0_3] 35 (0,0)))∧(w'.heap[gb208]? = some (.cells #[.int .i64 a1_0,.int .i64 a1_1,.int .i64 a1_2,.int .i64 a1_3] 35 (0,0)))∧(w'.heap[gb209]? = some (.cells #[.int .u64 0,.int .u64 0,.int .u64 0,.int .u64 0] 79 (0,0)))∧(w'.heap[s_]? = some (.cells #[.int .u64 0,.int .u64 0,.int .u64 0,.int .u64 0] 79 (0,0)))∧(w.heap.size ≤ s_)∧(w.heap.size ≤ s_)∧(gb207 ≠ s_)∧(s_ ≠ gb207)∧(gb208 ≠ s_)∧(s_ ≠ gb208)∧(gb209 ≠ s_)∧(s_ ≠ gb209)∧(Below w.heap.size w w')) ?_ ?_
   rotate_left
   ·intro hJ2_3_5_7
    refine join_ (σ:=Nat × Nat) 3 #[tt,tt,tt,tt,tt,ff,tt,tt,ff,ff] (fun s_ => [(10,.agg #[.int .i64 t210,.int .i64 t211,.int .i64 t212,.int .i64 t213]),(11,.agg #[.int .u64 t214,.int .u64 t215,.int .u64 t216,.int .u64 t217]),(5,.pointer (some ⟨s_.1,0,none⟩)),(6,.pointer (some ⟨s_.2,0,none⟩))]) (fun s_ w' => (w'.cell? ⟨gb207,0,none⟩ = some (.int .i64 a0_0)∧w'.cell? ⟨gb207,1,none⟩ = some (.int .i64 a0_1)∧w'.cell? ⟨gb207,2,none⟩ = some (.int .i64 a0_2)∧w'.cell? ⟨gb207,3,none⟩ = some (.int .i64 a0_3)∧w'.cell? ⟨gb208,0,none⟩ = some (.int .i64 a1_0)∧w'.cell? ⟨gb208,1,none⟩ = some (.int .i64 a1_1)∧w'.cell? ⟨gb208,2,none⟩ = some (.int .i64 a1_2)∧w'.cell? ⟨gb208,3,none⟩ = some (.int .i64 a1_3))∧(w'.heap[gb207]? = some (.cells #[.int .i64 a0_0,.int .i64 a0_1,.int .i64 a0_2,.int .i64 a0_3] 35 (0,0)))∧(w'.heap[gb208]? = some (.cells #[.int .i64 a1_0,.int .i64 a1_1,.int .i64 a1_2,.int .i64 a1_3] 35 (0,0)))∧(w'.heap[gb209]? = some (.cells #[.int .u64 0,.int .u64 0,.int .u64 0,.int .u64 0] 79 (0,0)))∧(w'.heap[s_.1]? = some (.cells #[.int .u64 0,.int .u64 0,.int .u64 0,.int .u64 0] 79 (0,0)))∧(w'.heap[s_.2]? = some (.cells #[.int .u64 0,.int .u64 0,.int .u64 0,.int .u64 0] 79 (0,0)))∧(w.heap.size ≤ s_.1)∧(w.heap.size ≤ s_.1)∧(gb207 ≠ s_.1)∧(s_.1 ≠ gb207)∧(gb208 ≠ s_.1)∧(s_.1 ≠ gb208)∧(gb209 ≠ s_.1)∧(s_.1 ≠ gb209)∧(s_.2 ≠ s_.1)∧(s_.1 ≠ s_.2)∧(w.heap.size ≤ s_.2)∧(w.heap.size ≤ s_.2)∧(gb207 ≠ s_.2)∧(s_.2 ≠ gb207)∧(gb208 ≠ s_.2)∧(s_.2 ≠ gb208)∧(gb209 ≠ s_.2)∧(s_.2 ≠ gb209)∧(Below w.heap.size w w')) ?_ ?_
    rotate_left
    ·intro hJ2_3_6_7
     refine join_ (σ:=Unit) 4 #[tt,tt,tt,tt,tt,tt,ff,ff,ff,ff] (fun s_ => [(10,.agg #[.int .i64 t210,.int .i64 t211,.int .i64 t212,.int .i64 t213]),(11,.agg #[.int .u64 t214,.int .u64 t215,.int .u64 t216,.int .u64 t217]),(13,.agg #[.int .u64 t218,.int .u64 t219,.int .u64 t220,.int .u64 t221])]) (fun s_ w' => (w'.cell? ⟨gb207,0,none⟩ = some (.int .i64 a0_0)∧w'.cell? ⟨gb207,1,none⟩ = some (.int .i64 a0_1)∧w'.cell? ⟨gb207,2,none⟩ = some (.int .i64 a0_2)∧w'.cell? ⟨gb207,3,none⟩ = some (.int .i64 a0_3)∧w'.cell? ⟨gb208,0,none⟩ = some (.int .i64 a1_0)∧w'.cell? ⟨gb208,1,none⟩ = some (.int .i64 a1_1)∧w'.cell? ⟨gb208,2,none⟩ = some (.int .i64 a1_2)∧w'.cell? ⟨gb208,3,none⟩ = some (.int .i64 a1_3))∧(w'.heap[gb207]? = some (.cells #[.int .i64 a0_0,.int .i64 a0_1,.int .i64 a0_2,.int .i64 a0_3] 35 (0,0)))∧(w'.heap[gb208]? = some (.cells #[.int .i64 a1_0,.int .i64 a1_1,.int .i64 a1_2,.int .i64 a1_3] 35 (0,0)))∧(w'.heap[gb209]? = some (.cells #[.int .u64 0,.int .u64 0,.int .u64 0,.int .u64 0] 79 (0,0)))∧(Below w.heap.size w w')) ?_ ?_
     rotate_left
     ·intro hJ2_3_5
      refine join_ (σ:=Nat) 4 #[tt,tt,tt,tt,tt,ff,tt,ff,ff,ff] (fun s_ => [(10,.agg #[.int .i64 t210,.int .i64 t211,.int .i64 t212,.int .i64 t213]),(11,.agg #[.int .u64 t214,.int .u64 t215,.int .u64 t216,.int .u64 t217]),(5,.pointer (some ⟨s_,0,none⟩))]) (fun s_ w' => (w'.cell? ⟨gb207,0,none⟩ = some (.int .i64 a0_0)∧w'.cell? ⟨gb207,1,none⟩ = some (.int .i64 a0_1)∧w'.cell? ⟨gb207,2,none⟩ = some (.int .i64 a0_2)∧w'.cell? ⟨gb207,3,none⟩ = some (.int .i64 a0_3)∧w'.cell? ⟨gb208,0,none⟩ = some (.int .i64 a1_0)∧w'.cell? ⟨gb208,1,none⟩ = some (.int .i64 a1_1)∧w'.cell? ⟨gb208,2,none⟩ = some (.int .i64 a1_2)∧w'.cell? ⟨gb208,3,none⟩ = some (.int .i64 a1_3))∧(w'.heap[gb207]? = some (.cells #[.int .i64 a0_0,.int .i64 a0_1,.int .i64 a0_2,.int .i64 a0_3] 35 (0,0)))∧(w'.heap[gb208]? = some (.cells #[.int .i64 a1_0,.int .i64 a1_1,.int .i64 a1_2,.int .i64 a1_3] 35 (0,0)))∧(w'.heap[gb209]? = some (.cells #[.int .u64 0,.int .u64 0,.int .u64 0,.int .u64 0] 79 (0,0)))∧(w'.heap[s_]? = some (.cells #[.int .u64 0,.int .u64 0,.int .u64 0,.int .u64 0] 79 (0,0)))∧(w.heap.size ≤ s_)∧(w.heap.size ≤ s_)∧(gb207 ≠ s_)∧(s_ ≠ gb207)∧(gb208 ≠ s_)∧(s_ ≠ gb208)∧(gb209 ≠ s_)∧(s_ ≠ gb209)∧(Below w.heap.size w w')) ?_ ?_
      rotate_left
      ·intro hJ2_3_6
       refine join_ (σ:=Nat) 4 #[tt,tt,tt,tt,tt,ff,ff,tt,ff,ff] (fun s_ => [(10,.agg #[.int .i64 t210,.int .i64 t211,.int .i64 t212,.int .i64 t213]),(11,.agg #[.int .u64 t214,.int .u64 t215,.int .u64 t216,.int .u64 t217]),(6,.pointer (some ⟨s_,0,none⟩))]) (fun s_ w' => (w'.cell? ⟨gb207,0,none⟩ = some (.int .i64 a0_0)∧w'.cell? ⟨gb207,1,none⟩ = some (.int .i64 a0_1)∧w'.cell? ⟨gb207,2,none⟩ = some (.int .i64 a0_2)∧w'.cell? ⟨gb207,3,none⟩ = some (.int .i64 a0_3)∧w'.cell? ⟨gb208,0,none⟩ = some (.int .i64 a1_0)∧w'.cell? ⟨gb208,1,none⟩ = some (.int .i64 a1_1)∧w'.cell? ⟨gb208,2,none⟩ = some (.int .i64 a1_2)∧w'.cell? ⟨gb208,3,none⟩ = some (.int .i64 a1_3))∧(w'.heap[gb207]? = some (.cells #[.int .i64 a0_0,.int .i64 a0_1,.int .i64 a0_2,.int .i64 a0_3] 35 (0,0)))∧(w'.heap[gb208]? = some (.cells #[.int .i64 a1_0,.int .i64 a1_1,.int .i64 a1_2,.int .i64 a1_3] 35 (0,0)))∧(w'.heap[gb209]? = some (.cells #[.int .u64 0,.int .u64 0,.int .u64 0,.int .u64 0] 79 (0,0)))∧(w'.heap[s_]? = some (.cells #[.int .u64 0,.int .u64 0,.int .u64 0,.int .u64 0] 79 (0,0)))∧(w.heap.size ≤ s_)∧(w.heap.size ≤ s_)∧(gb207 ≠ s_)∧(s_ ≠ gb207)∧(gb208 ≠ s_)∧(s_ ≠ gb208)∧(gb209 ≠ s_)∧(s_ ≠ gb209)∧(Below w.heap.size w w')) ?_ ?_
       rotate_left
       ·intro hJ2_3_7
        refine join_ (σ:=Nat × Nat) 4 #[tt,tt,tt,ff,tt,ff,tt,tt,ff,ff] (fun s_ => [(10,.agg #[.int .i64 t210,.int .i64 t211,.int .i64 t212,.int .i64 t213]),(5,.pointer (some ⟨s_.1,0,none⟩)),(6,.pointer (some ⟨s_.2,0,none⟩))]) (fun s_ w' => (w'.cell? ⟨gb207,0,none⟩ = some (.int .i64 a0_0)∧w'.cell? ⟨gb207,1,none⟩ = some (.int .i64 a0_1)∧w'.cell? ⟨gb207,2,none⟩ = some (.int .i64 a0_2)∧w'.cell? ⟨gb207,3,none⟩ = some (.int .i64 a0_3)∧w'.cell? ⟨gb208,0,none⟩ = some (.int .i64 a1_0)∧w'.cell? ⟨gb208,1,none⟩ = some (.int .i64 a1_1)∧w'.cell? ⟨gb208,2,none⟩ = some (.int .i64 a1_2)∧w'.cell? ⟨gb208,3,none⟩ = some (.int .i64 a1_3))∧(w'.heap[gb207]? = some (.cells #[.int .i64 a0_0,.int .i64 a0_1,.int .i64 a0_2,.int .i64 a0_3] 35 (0,0)))∧(w'.heap[gb208]? = some (.cells #[.int .i64 a1_0,.int .i64 a1_1,.int .i64 a1_2,.int .i64 a1_3] 35 (0,0)))∧(w'.heap[gb209]? = some (.cells #[.int .u64 0,.int .u64 0,.int .u64 0,.int .u64 0] 79 (0,0)))∧(w'.heap[s_.1]? = some (.cells #[.int .u64 0,.int .u64 0,.int .u64 0,.int .u64 0] 79 (0,0)))∧(w'.heap[s_.2]? = some (.cells #[.int .u64 0,.int .u64 0,.int .u64 0,.int .u64 0] 79 (0,0)))∧(w.heap.size ≤ s_.1)∧(w.heap.size ≤ s_.1)∧(gb207 ≠ s_.1)∧(s_.1 ≠ gb207)∧(gb208 ≠ s_.1)∧(s_.1 ≠ gb208)∧(gb209 ≠ s_.1)∧(s_.1 ≠ gb209)∧(s_.2 ≠ s_.1)∧(s_.1 ≠ s_.2)∧(w.heap.size ≤ s_.2)∧(w.heap.size ≤ s_.2)∧(gb207 ≠ s_.2)∧(s_.2 ≠ gb207)∧(gb208 ≠ s_.2)∧(s_.2 ≠ gb208)∧(gb209 ≠ s_.2)∧(s_.2 ≠ gb209)∧(Below w.heap.size w w')) ?_ ?_
        rotate_left
        ·intro hJ2_6_7
         refine join_ (σ:=Unit) 5 #[tt,tt,tt,tt,tt,ff,ff,ff,ff,ff] (fun s_ => [(10,.agg #[.int .i64 t210,.int .i64 t211,.int .i64 t212,.int .i64 t213]),(11,.agg #[.int .u64 t214,.int .u64 t215,.int .u64 t216,.int .u64 t217])]) (fun s_ w' => (w'.cell? ⟨gb207,0,none⟩ = some (.int .i64 a0_0)∧w'.cell? ⟨gb207,1,none⟩ = some (.int .i64 a0_1)∧w'.cell? ⟨gb207,2,none⟩ = some (.int .i64 a0_2)∧w'.cell? ⟨gb207,3,none⟩ = some (.int .i64 a0_3)∧w'.cell? ⟨gb208,0,none⟩ = some (.int .i64 a1_0)∧w'.cell? ⟨gb208,1,none⟩ = some (.int .i64 a1_1)∧w'.cell? ⟨gb208,2,none⟩ = some (.int .i64 a1_2)∧w'.cell? ⟨gb208,3,none⟩ = some (.int .i64 a1_3))∧(w'.heap[gb207]? = some (.cells #[.int .i64 a0_0,.int .i64 a0_1,.int .i64 a0_2,.int .i64 a0_3] 35 (0,0)))∧(w'.heap[gb208]? = some (.cells #[.int .i64 a1_0,.int .i64 a1_1,.int .i64 a1_2,.int .i64 a1_3] 35 (0,0)))∧(w'.heap[gb209]? = some (.cells #[.int .u64 0,.int .u64 0,.int .u64 0,.int .u64 0] 79 (0,0)))∧(Below w.heap.size w w')) ?_ ?_
         rotate_left
         ·intro hJ2_3
          refine join_ (σ:=Nat) 5 #[tt,tt,tt,ff,tt,ff,tt,ff,ff,ff] (fun s_ => [(10,.agg #[.int .i64 t210,.int .i64 t211,.int .i64 t212,.int .i64 t213]),(5,.pointer (some ⟨s_,0,none⟩))]) (fun s_ w' => (w'.cell? ⟨gb207,0,none⟩ = some (.int .i64 a0_0)∧w'.cell? ⟨gb207,1,none⟩ = some (.int .i64 a0_1)∧w'.cell? ⟨gb207,2,none⟩ = some (.int .i64 a0_2)∧w'.cell? ⟨gb207,3,none⟩ = some (.int .i64 a0_3)∧w'.cell? ⟨gb208,0,none⟩ = some (.int .i64 a1_0)∧w'.cell? ⟨gb208,1,none⟩ = some (.int .i64 a1_1)∧w'.cell? ⟨gb208,2,none⟩ = some (.int .i64 a1_2)∧w'.cell? ⟨gb208,3,none⟩ = some (.int .i64 a1_3))∧(w'.heap[gb207]? = some (.cells #[.int .i64 a0_0,.int .i64 a0_1,.int .i64 a0_2,.int .i64 a0_3] 35 (0,0)))∧(w'.heap[gb208]? = some (.cells #[.int .i64 a1_0,.int .i64 a1_1,.int .i64 a1_2,.int .i64 a1_3] 35 (0,0)))∧(w'.heap[gb209]? = some (.cells #[.int .u64 0,.int .u64 0,.int .u64 0,.int .u64 0] 79 (0,0)))∧(w'.heap[s_]? = some (.cells #[.int .u64 0,.int .u64 0,.int .u64 0,.int .u64 0] 79 (0,0)))∧(w.heap.size ≤ s_)∧(w.heap.size ≤ s_)∧(gb207 ≠ s_)∧(s_ ≠ gb207)∧(gb208 ≠ s_)∧(s_ ≠ gb208)∧(gb209 ≠ s_)∧(s_ ≠ gb209)∧(Below w.heap.size w w')) ?_ ?_
          rotate_left
          ·intro hJ2_6
           refine join_ (σ:=Nat) 5 #[tt,tt,tt,ff,tt,ff,ff,tt,ff,ff] (fun s_ => [(10,.agg #[.int .i64 t210,.int .i64 t211,.int .i64 t212,.int .i64 t213]),(6,.pointer (some ⟨s_,0,none⟩))]) (fun s_ w' => (w'.cell? ⟨gb207,0,none⟩ = some (.int .i64 a0_0)∧w'.cell? ⟨gb207,1,none⟩ = some (.int .i64 a0_1)∧w'.cell? ⟨gb207,2,none⟩ = some (.int .i64 a0_2)∧w'.cell? ⟨gb207,3,none⟩ = some (.int .i64 a0_3)∧w'.cell? ⟨gb208,0,none⟩ = some (.int .i64 a1_0)∧w'.cell? ⟨gb208,1,none⟩ = some (.int .i64 a1_1)∧w'.cell? ⟨gb208,2,none⟩ = some (.int .i64 a1_2)∧w'.cell? ⟨gb208,3,none⟩ = some (.int .i64 a1_3))∧(w'.heap[gb207]? = some (.cells #[.int .i64 a0_0,.int .i64 a0_1,.int .i64 a0_2,.int .i64 a0_3] 35 (0,0)))∧(w'.heap[gb208]? = some (.cells #[.int .i64 a1_0,.int .i64 a1_1,.int .i64 a1_2,.int .i64 a1_3] 35 (0,0)))∧(w'.heap[gb209]? = some (.cells #[.int .u64 0,.int .u64 0,.int .u64 0,.int .u64 0] 79 (0,0)))∧(w'.heap[s_]? = some (.cells #[.int .u64 0,.int .u64 0,.int .u64 0,.int .u64 0] 79 (0,0)))∧(w.heap.size ≤ s_)∧(w.heap.size ≤ s_)∧(gb207 ≠ s_)∧(s_ ≠ gb207)∧(gb208 ≠ s_)∧(s_ ≠ gb208)∧(gb209 ≠ s_)∧(s_ ≠ gb209)∧(Below w.heap.size w w')) ?_ ?_
           rotate_left
           ·intro hJ2_7
            refine join_ (σ:=Nat × Nat) 5 #[tt,tt,ff,ff,tt,ff,tt,tt,ff,ff] (fun s_ => [(5,.pointer (some ⟨s_.1,0,none⟩)),(6,.pointer (some ⟨s_.2,0,none⟩))]) (fun s_ w' => (w'.cell? ⟨gb207,0,none⟩ = some (.int .i64 a0_0)∧w'.cell? ⟨gb207,1,none⟩ = some (.int .i64 a0_1)∧w'.cell? ⟨gb207,2,none⟩ = some (.int .i64 a0_2)∧w'.cell? ⟨gb207,3,none⟩ = some (.int .i64 a0_3)∧w'.cell? ⟨gb208,0,none⟩ = some (.int .i64 a1_0)∧w'.cell? ⟨gb208,1,none⟩ = some (.int .i64 a1_1)∧w'.cell? ⟨gb208,2,none⟩ = some (.int .i64 a1_2)∧w'.cell? ⟨gb208,3,none⟩ = some (.int .i64 a1_3))∧(w'.heap[gb207]? = some (.cells #[.int .i64 a0_0,.int .i64 a0_1,.int .i64 a0_2,.int .i64 a0_3] 35 (0,0)))∧(w'.heap[gb208]? = some (.cells #[.int .i64 a1_0,.int .i64 a1_1,.int .i64 a1_2,.int .i64 a1_3] 35 (0,0)))∧(w'.heap[gb209]? = some (.cells #[.int .u64 0,.int .u64 0,.int .u64 0,.int .u64 0] 79 (0,0)))∧(w'.heap[s_.1]? = some (.cells #[.int .u64 0,.int .u64 0,.int .u64 0,.int .u64 0] 79 (0,0)))∧(w'.heap[s_.2]? = some (.cells #[.int .u64 0,.int .u64 0,.int .u64 0,.int .u64 0] 79 (0,0)))∧(w.heap.size ≤ s_.1)∧(w.heap.size ≤ s_.1)∧(gb207 ≠ s_.1)∧(s_.1 ≠ gb207)∧(gb208 ≠ s_.1)∧(s_.1 ≠ gb208)∧(gb209 ≠ s_.1)∧(s_.1 ≠ gb209)∧(s_.2 ≠ s_.1)∧(s_.1 ≠ s_.2)∧(w.heap.size ≤ s_.2)∧(w.heap.size ≤ s_.2)∧(gb207 ≠ s_.2)∧(s_.2 ≠ gb207)∧(gb208 ≠ s_.2)∧(s_.2 ≠ gb208)∧(gb209 ≠ s_.2)∧(s_.2 ≠ gb209)∧(Below w.heap.size w w')) ?_ ?_
            rotate_left
            ·intro hJ6_7
             refine join_ (σ:=Unit) 6 #[tt,tt,tt,ff,tt,ff,ff,ff,ff,ff] (fun s_ => [(10,.agg #[.int .i64 t210,.int .i64 t211,.int .i64 t212,.int .i64 t213])]) (fun s_ w' => (w'.cell? ⟨gb207,0,none⟩ = some (.int .i64 a0_0)∧w'.cell? ⟨gb207,1,none⟩ = some (.int .i64 a0_1)∧w'.cell? ⟨gb207,2,none⟩ = some (.int .i64 a0_2)∧w'.cell? ⟨gb207,3,none⟩ = some (.int .i64 a0_3)∧w'.cell? ⟨gb208,0,none⟩ = some (.int .i64 a1_0)∧w'.cell? ⟨gb208,1,none⟩ = some (.int .i64 a1_1)∧w'.cell? ⟨gb208,2,none⟩ = some (.int .i64 a1_2)∧w'.cell? ⟨gb208,3,none⟩ = some (.int .i64 a1_3))∧(w'.heap[gb207]? = some (.cells #[.int .i64 a0_0,.int .i64 a0_1,.int .i64 a0_2,.int .i64 a0_3] 35 (0,0)))∧(w'.heap[gb208]? = some (.cells #[.int .i64 a1_0,.int .i64 a1_1,.int .i64 a1_2,.int .i64 a1_3] 35 (0,0)))∧(w'.heap[gb209]? = some (.cells #[.int .u64 0,.int .u64 0,.int .u64 0,.int .u64 0] 79 (0,0)))∧(Below w.heap.size w w')) ?_ ?_
             rotate_left
             ·intro hJ2
              refine join_ (σ:=Nat) 6 #[tt,tt,ff,ff,tt,ff,tt,ff,ff,ff] (fun s_ => [(5,.pointer (some ⟨s_,0,none⟩))]) (fun s_ w' => (w'.cell? ⟨gb207,0,none⟩ = some (.int .i64 a0_0)∧w'.cell? ⟨gb207,1,none⟩ = some (.int .i64 a0_1)∧w'.cell? ⟨gb207,2,none⟩ = some (.int .i64 a0_2)∧w'.cell? ⟨gb207,3,none⟩ = some (.int .i64 a0_3)∧w'.cell? ⟨gb208,0,none⟩ = some (.int .i64 a1_0)∧w'.cell? ⟨gb208,1,none⟩ = some (.int .i64 a1_1)∧w'.cell? ⟨gb208,2,none⟩ = some (.int .i64 a1_2)∧w'.cell? ⟨gb208,3,none⟩ = some (.int .i64 a1_3))∧(w'.heap[gb207]? = some (.cells #[.int .i64 a0_0,.int .i64 a0_1,.int .i64 a0_2,.int .i64 a0_3] 35 (0,0)))∧(w'.heap[gb208]? = some (.cells #[.int .i64 a1_0,.int .i64 a1_1,.int .i64 a1_2,.int .i64 a1_3] 35 (0,0)))∧(w'.heap[gb209]? = some (.cells #[.int .u64 0,.int .u64 0,.int .u64 0,.int .u64 0] 79 (0,0)))∧(w'.heap[s_]? = some (.cells #[.int .u64 0,.int .u64 0,.int .u64 0,.int .u64 0] 79 (0,0)))∧(w.heap.size ≤ s_)∧(w.heap.size ≤ s_)∧(gb207 ≠ s_)∧(s_ ≠ gb207)∧(gb208 ≠ s_)∧(s_ ≠ gb208)∧(gb209 ≠ s_)∧(s_ ≠ gb209)∧(Below w.heap.size w w')) ?_ ?_
              rotate_left
              ·intro hJ6
               refine join_ (σ:=Nat) 6 #[tt,tt,ff,ff,tt,ff,ff,tt,ff,ff] (fun s_ => [(6,.pointer (some ⟨s_,0,none⟩))]) (fun s_ w' => (w'.cell? ⟨gb207,0,none⟩ = some (.int .i64 a0_0)∧w'.cell? ⟨gb207,1,none⟩ = some (.int .i64 a0_1)∧w'.cell? ⟨gb207,2,none⟩ = some (.int .i64 a0_2)∧w'.cell? ⟨gb207,3,none⟩ = some (.int .i64 a0_3)∧w'.cell? ⟨gb208,0,none⟩ = some (.int .i64 a1_0)∧w'.cell? ⟨gb208,1,none⟩ = some (.int .i64 a1_1)∧w'.cell? ⟨gb208,2,none⟩ = some (.int .i64 a1_2)∧w'.cell? ⟨gb208,3,none⟩ = some (.int .i64 a1_3))∧(w'.heap[gb207]? = some (.cells #[.int .i64 a0_0,.int .i64 a0_1,.int .i64 a0_2,.int .i64 a0_3] 35 (0,0)))∧(w'.heap[gb208]? = some (.cells #[.int .i64 a1_0,.int .i64 a1_1,.int .i64 a1_2,.int .i64 a1_3] 35 (0,0)))∧(w'.heap[gb209]? = some (.cells #[.int .u64 0,.int .u64 0,.int .u64 0,.int .u64 0] 79 (0,0)))∧(w'.heap[s_]? = some (.cells #[.int .u64 0,.int .u64 0,.int .u64 0,.int .u64 0] 79 (0,0)))∧(w.heap.size ≤ s_)∧(w.heap.size ≤ s_)∧(gb207 ≠ s_)∧(s_ ≠ gb207)∧(gb208 ≠ s_)∧(s_ ≠ gb208)∧(gb209 ≠ s_)∧(s_ ≠ gb209)∧(Below w.heap.size w w')) ?_ ?_
               rotate_left
               ·intro hJ7
                refine three_ (i:=2) (j:=6) (k:=7) (Ni:=some 10) (Nj:=some 5) (Nk:=some 6) #[tt,tt,tt,ff,tt,ff,ff,ff,ff,ff] #[tt,tt,ff,ff,tt,ff,tt,ff,ff,ff] #[tt,tt,ff,ff,tt,ff,ff,tt,ff,ff] rfl rfl rfl rfl rfl rfl (three_of HT_.out (by kernel_rfl)) (by decide) (by decide) (by decide) (fun K hK => ?_) (fun K hK => ?_) (fun K hK => ?_)
                ·skip
                 refine goes_ Try.func40 (by kernel_rfl) rfl #[.agg #[.int .i64 a0_0,.int .i64 a0_1,.int .i64 a0_2,.int .i64 a0_3],.agg #[.int .i64 a1_0,.int .i64 a1_1,.int .i64 a1_2,.int .i64 a1_3]] (by rfl) rfl rfl (by (try simp only [List.map_toArray,List.map_cons,List.map_nil]);first|done|rfl|(simp only [List.length_drop,List.length_take];rfl)) ?_
                 with_reducible refine (key_Union.calls a0_0 a0_1 a0_2 a0_3 a1_0 a1_1 a1_2 a1_3 t210 t211 t212 t213 _ A3.out).mono ?_
                 rintro e w12 ⟨rfl,hb⟩
                 refine ⟨_,rfl,?_⟩
                 have n0_:=Ak (kB (g:=gb207) (o:=.cells #[.int .i64 a0_0,.int .i64 a0_1,.int .i64 a0_2,.int .i64 a0_3] 35 (0,0)) (by (with_reducible repeat (first|refine kN ?_ _|refine kD ?_|refine kA ?_ _));exact BK207.out) hb)
                 have n1_:=Ak (kB (g:=gb208) (o:=.cells #[.int .i64 a1_0,.int .i64 a1_1,.int .i64 a1_2,.int .i64 a1_3] 35 (0,0)) (by (with_reducible repeat (first|refine kN ?_ _|refine kD ?_|refine kA ?_ _));exact BK208.out) hb)
                 have n2_:=Ak (kB (g:=gb209) (o:=.cells #[.int .u64 0,.int .u64 0,.int .u64 0,.int .u64 0] 79 (0,0)) (by (with_reducible repeat (first|refine kN ?_ _|refine kD ?_|refine kA ?_ _));exact BK209.out) hb)
                 have n3_:=Ak (below_step (by repeat (first|(with_reducible first|exact HB.out|apply bA|apply bN|apply bD|refine bS ?_ GE207.out|refine bS ?_ GE208.out|refine bS ?_ GE209.out)|exact HB.out)) hb)
                 clear BK207
                 clear BK208
                 clear BK209
                 clear HB
                 have BK207:=n0_
                 have BK208:=n1_
                 have BK209:=n2_
                 have HB:=n3_
                 clear n0_ n1_ n2_ n3_
                 (try clear hb)
                 (try clear hb2)
                 (try clear hk)
                 (try clear hi)
                 refine hK.out _ _ ⟨(kC BK207.out 0).trans rfl,(kC BK207.out 1).trans rfl,(kC BK207.out 2).trans rfl,(kC BK207.out 3).trans rfl,(kC BK208.out 0).trans rfl,(kC BK208.out 1).trans rfl,(kC BK208.out 2).trans rfl,(kC BK208.out 3).trans rfl⟩ (fun hHeld => ?_)
                 clear hK K
                 refine norm_ (a':=?_) ?_ ?_
                 rotate_left
                 ·show Act.put _ (some 10) _ = _
                  simp only [Act.put,sA,sZ,sS,i64_w,i32_w]
                  rfl
                 exact norm_ (by first|(simp only [putAll,Act.put,sA,sZ,sS];done)|(simp only [putAll,Act.put,sA,sZ,sS];rfl)) (hJ2 () _ ⟨hHeld,(by (with_reducible repeat (first|refine kN ?_ _|refine kD ?_|refine kA ?_ _));exact BK207.out),(by (with_reducible repeat (first|refine kN ?_ _|refine kD ?_|refine kA ?_ _));exact BK208.out),(by (with_reducible repeat (first|refine kN ?_ _|refine kD ?_|refine kA ?_ _));exact BK209.out),(by repeat (first|(with_reducible first|exact HB.out|apply bA|apply bN|apply bD|refine bS ?_ GE207.out|refine bS ?_ GE208.out|refine bS ?_ GE209.out)|exact HB.out))⟩)
                ·skip
                 refine box_step ?hg (N:=5) ?hd (cs:=#[.int .u64 0,.int .u64 0,.int .u64 0,.int .u64 0]) (t:=79) ?hr ?_;(case hd => rfl);(case hg => rfl);(case hr => first|(go_simp;done)|(go_simp;rfl))
                 intro gb222 hg w12 hbox hb
                 have n0_:=Ak (kB (g:=gb207) (o:=.cells #[.int .i64 a0_0,.int .i64 a0_1,.int .i64 a0_2,.int .i64 a0_3] 35 (0,0)) (by (with_reducible repeat (first|refine kN ?_ _|refine kD ?_|refine kA ?_ _));exact BK207.out) hb)
                 have n1_:=Ak (kB (g:=gb208) (o:=.cells #[.int .i64 a1_0,.int .i64 a1_1,.int .i64 a1_2,.int .i64 a1_3] 35 (0,0)) (by (with_reducible repeat (first|refine kN ?_ _|refine kD ?_|refine kA ?_ _));exact BK208.out) hb)
                 have n2_:=Ak (kB (g:=gb209) (o:=.cells #[.int .u64 0,.int .u64 0,.int .u64 0,.int .u64 0] 79 (0,0)) (by (with_reducible repeat (first|refine kN ?_ _|refine kD ?_|refine kA ?_ _));exact BK209.out) hb)
                 have n3_:=Ak (below_step (by repeat (first|(with_reducible first|exact HB.out|apply bA|apply bN|apply bD|refine bS ?_ GE207.out|refine bS ?_ GE208.out|refine bS ?_ GE209.out)|exact HB.out)) hb)
                 have n4_:=Ak (hbox)
                 have n5_:=Ak ((by rw [hg];exact (below_size (by repeat (first|(with_reducible first|exact HB.out|apply bA|apply bN|apply bD|refine bS ?_ GE207.out|refine bS ?_ GE208.out|refine bS ?_ GE209.out)|exact HB.out))) : w.heap.size ≤ gb222))
                 have n6_:=Ak ((by rw [hg];exact (below_size (by repeat (first|(with_reducible first|exact HB.out|apply bA|apply bN|apply bD|refine bS ?_ GE207.out|refine bS ?_ GE208.out|refine bS ?_ GE209.out)|exact HB.out))) : w.heap.size ≤ gb222))
                 have n7_:=Ak ((by rw [hg];exact Nat.ne_of_lt (blk_lt (g:=gb207) (o:=.cells #[.int .i64 a0_0,.int .i64 a0_1,.int .i64 a0_2,.int .i64 a0_3] 35 (0,0)) (by (with_reducible repeat (first|refine kN ?_ _|refine kD ?_|refine kA ?_ _));exact BK207.out)) : gb207 ≠ gb222))
                 have n8_:=Ak ((by rw [hg];exact Nat.ne_of_gt (blk_lt (g:=gb207) (o:=.cells #[.int .i64 a0_0,.int .i64 a0_1,.int .i64 a0_2,.int .i64 a0_3] 35 (0,0)) (by (with_reducible repeat (first|refine kN ?_ _|refine kD ?_|refine kA ?_ _));exact BK207.out)) : gb222 ≠ gb207))
                 have n9_:=Ak ((by rw [hg];exact Nat.ne_of_lt (blk_lt (g:=gb208) (o:=.cells #[.int .i64 a1_0,.int .i64 a1_1,.int .i64 a1_2,.int .i64 a1_3] 35 (0,0)) (by (with_reducible repeat (first|refine kN ?_ _|refine kD ?_|refine kA ?_ _));exact BK208.out)) : gb208 ≠ gb222))
                 have n10_:=Ak ((by rw [hg];exact Nat.ne_of_gt (blk_lt (g:=gb208) (o:=.cells #[.int .i64 a1_0,.int .i64 a1_1,.int .i64 a1_2,.int .i64 a1_3] 35 (0,0)) (by (with_reducible repeat (first|refine kN ?_ _|refine kD ?_|refine kA ?_ _));exact BK208.out)) : gb222 ≠ gb208))
                 have n11_:=Ak ((by rw [hg];exact Nat.ne_of_lt (blk_lt (g:=gb209) (o:=.cells #[.int .u64 0,.int .u64 0,.int .u64 0,.int .u64 0] 79 (0,0)) (by (with_reducible repeat (first|refine kN ?_ _|refine kD ?_|refine kA ?_ _));exact BK209.out)) : gb209 ≠ gb222))
                 have n12_:=Ak ((by rw [hg];exact Nat.ne_of_gt (blk_lt (g:=gb209) (o:=.cells #[.int .u64 0,.int .u64 0,.int .u64 0,.int .u64 0] 79 (0,0)) (by (with_reducible repeat (first|refine kN ?_ _|refine kD ?_|refine kA ?_ _));exact BK209.out)) : gb222 ≠ gb209))
                 clear BK207
                 clear BK208
                 clear BK209
                 clear HB
                 have BK207:=n0_
                 have BK208:=n1_
                 have BK209:=n2_
                 have HB:=n3_
                 have BK222:=n4_
                 have GW222:=n5_
                 have GE222:=n6_
                 have NB207_222:=n7_
                 have NB222_207:=n8_
                 have NB208_222:=n9_
                 have NB222_208:=n10_
                 have NB209_222:=n11_
                 have NB222_209:=n12_
                 clear n0_ n1_ n2_ n3_ n4_ n5_ n6_ n7_ n8_ n9_ n10_ n11_ n12_
                 clear hb hbox hg
                 refine hK.out _ _ ⟨(kC BK207.out 0).trans rfl,(kC BK207.out 1).trans rfl,(kC BK207.out 2).trans rfl,(kC BK207.out 3).trans rfl,(kC BK208.out 0).trans rfl,(kC BK208.out 1).trans rfl,(kC BK208.out 2).trans rfl,(kC BK208.out 3).trans rfl⟩ (fun hHeld => ?_)
                 clear hK K
                 refine norm_ (a':=?_) ?_ ?_
                 rotate_left
                 ·show Act.put _ (some 5) _ = _
                  simp only [Act.put,sA,sZ,sS,i64_w,i32_w]
                  rfl
                 exact norm_ (by first|(simp only [putAll,Act.put,sA,sZ,sS];done)|(simp only [putAll,Act.put,sA,sZ,sS];rfl)) (hJ6 (gb222) _ ⟨hHeld,(by (with_reducible repeat (first|refine kN ?_ _|refine kD ?_|refine kA ?_ _));exact BK207.out),(by (with_reducible repeat (first|refine kN ?_ _|refine kD ?_|refine kA ?_ _));exact BK208.out),(by (with_reducible repeat (first|refine kN ?_ _|refine kD ?_|refine kA ?_ _));exact BK209.out),(by (with_reducible repeat (first|refine kN ?_ _|refine kD ?_|refine kA ?_ _));exact BK222.out),GW222.out,GE222.out,NB207_222.out,NB222_207.out,NB208_222.out,NB222_208.out,NB209_222.out,NB222_209.out,(by repeat (first|(with_reducible first|exact HB.out|apply bA|apply bN|apply bD|refine bS ?_ GE207.out|refine bS ?_ GE208.out|refine bS ?_ GE209.out|refine bS ?_ GE222.out)|exact HB.out))⟩)
                ·skip
                 refine box_step ?hg (N:=6) ?hd (cs:=#[.int .u64 0,.int .u64 0,.int .u64 0,.int .u64 0]) (t:=79) ?hr ?_;(case hd => rfl);(case hg => rfl);(case hr => first|(go_simp;done)|(go_simp;rfl))
                 intro gb223 hg w12 hbox hb
                 have n0_:=Ak (kB (g:=gb207) (o:=.cells #[.int .i64 a0_0,.int .i64 a0_1,.int .i64 a0_2,.int .i64 a0_3] 35 (0,0)) (by (with_reducible repeat (first|refine kN ?_ _|refine kD ?_|refine kA ?_ _));exact BK207.out) hb)
                 have n1_:=Ak (kB (g:=gb208) (o:=.cells #[.int .i64 a1_0,.int .i64 a1_1,.int .i64 a1_2,.int .i64 a1_3] 35 (0,0)) (by (with_reducible repeat (first|refine kN ?_ _|refine kD ?_|refine kA ?_ _));exact BK208.out) hb)
                 have n2_:=Ak (kB (g:=gb209) (o:=.cells #[.int .u64 0,.int .u64 0,.int .u64 0,.int .u64 0] 79 (0,0)) (by (with_reducible repeat (first|refine kN ?_ _|refine kD ?_|refine kA ?_ _));exact BK209.out) hb)
                 have n3_:=Ak (below_step (by repeat (first|(with_reducible first|exact HB.out|apply bA|apply bN|apply bD|refine bS ?_ GE207.out|refine bS ?_ GE208.out|refine bS ?_ GE209.out)|exact HB.out)) hb)
                 have n4_:=Ak (hbox)
                 have n5_:=Ak ((by rw [hg];exact (below_size (by repeat (first|(with_reducible first|exact HB.out|apply bA|apply bN|apply bD|refine bS ?_ GE207.out|refine bS ?_ GE208.out|refine bS ?_ GE209.out)|exact HB.out))) : w.heap.size ≤ gb223))
                 have n6_:=Ak ((by rw [hg];exact (below_size (by repeat (first|(with_reducible first|exact HB.out|apply bA|apply bN|apply bD|refine bS ?_ GE207.out|refine bS ?_ GE208.out|refine bS ?_ GE209.out)|exact HB.out))) : w.heap.size ≤ gb223))
                 have n7_:=Ak ((by rw [hg];exact Nat.ne_of_lt (blk_lt (g:=gb207) (o:=.cells #[.int .i64 a0_0,.int .i64 a0_1,.int .i64 a0_2,.int .i64 a0_3] 35 (0,0)) (by (with_reducible repeat (first|refine kN ?_ _|refine kD ?_|refine kA ?_ _));exact BK207.out)) : gb207 ≠ gb223))
                 have n8_:=Ak ((by rw [hg];exact Nat.ne_of_gt (blk_lt (g:=gb207) (o:=.cells #[.int .i64 a0_0,.int .i64 a0_1,.int .i64 a0_2,.int .i64 a0_3] 35 (0,0)) (by (with_reducible repeat (first|refine kN ?_ _|refine kD ?_|refine kA ?_ _));exact BK207.out)) : gb223 ≠ gb207))
                 have n9_:=Ak ((by rw [hg];exact Nat.ne_of_lt (blk_lt (g:=gb208) (o:=.cells #[.int .i64 a1_0,.int .i64 a1_1,.int .i64 a1_2,.int .i64 a1_3] 35 (0,0)) (by (with_reducible repeat (first|refine kN ?_ _|refine kD ?_|refine kA ?_ _));exact BK208.out)) : gb208 ≠ gb223))
                 have n10_:=Ak ((by rw [hg];exact Nat.ne_of_gt (blk_lt (g:=gb208) (o:=.cells #[.int .i64 a1_0,.int .i64 a1_1,.int .i64 a1_2,.int .i64 a1_3] 35 (0,0)) (by (with_reducible repeat (first|refine kN ?_ _|refine kD ?_|refine kA ?_ _));exact BK208.out)) : gb223 ≠ gb208))
                 have n11_:=Ak ((by rw [hg];exact Nat.ne_of_lt (blk_lt (g:=gb209) (o:=.cells #[.int .u64 0,.int .u64 0,.int .u64 0,.int .u64 0] 79 (0,0)) (by (with_reducible repeat (first|refine kN ?_ _|refine kD ?_|refine kA ?_ _));exact BK209.out)) : gb209 ≠ gb223))
                 have n12_:=Ak ((by rw [hg];exact Nat.ne_of_gt (blk_lt (g:=gb209) (o:=.cells #[.int .u64 0,.int .u64 0,.int .u64 0,.int .u64 0] 79 (0,0)) (by (with_reducible repeat (first|refine kN ?_ _|refine kD ?_|refine kA ?_ _));exact BK209.out)) : gb223 ≠ gb209))
                 clear BK207
                 clear BK208
                 clear BK209
                 clear HB
                 have BK207:=n0_
                 have BK208:=n1_
                 have BK209:=n2_
                 have HB:=n3_
                 have BK223:=n4_
                 have GW223:=n5_
                 have GE223:=n6_
                 have NB207_223:=n7_
                 have NB223_207:=n8_
                 have NB208_223:=n9_
                 have NB223_208:=n10_
                 have NB209_223:=n11_
                 have NB223_209:=n12_
                 clear n0_ n1_ n2_ n3_ n4_ n5_ n6_ n7_ n8_ n9_ n10_ n11_ n12_
                 clear hb hbox hg
                 refine hK.out _ _ ⟨(kC BK207.out 0).trans rfl,(kC BK207.out 1).trans rfl,(kC BK207.out 2).trans rfl,(kC BK207.out 3).trans rfl,(kC BK208.out 0).trans rfl,(kC BK208.out 1).trans rfl,(kC BK208.out 2).trans rfl,(kC BK208.out 3).trans rfl⟩ (fun hHeld => ?_)
                 clear hK K
                 refine norm_ (a':=?_) ?_ ?_
                 rotate_left
                 ·show Act.put _ (some 6) _ = _
                  simp only [Act.put,sA,sZ,sS,i64_w,i32_w]
                  rfl
                 exact norm_ (by first|(simp only [putAll,Act.put,sA,sZ,sS];done)|(simp only [putAll,Act.put,sA,sZ,sS];rfl)) (hJ7 (gb223) _ ⟨hHeld,(by (with_reducible repeat (first|refine kN ?_ _|refine kD ?_|refine kA ?_ _));exact BK207.out),(by (with_reducible repeat (first|refine kN ?_ _|refine kD ?_|refine kA ?_ _));exact BK208.out),(by (with_reducible repeat (first|refine kN ?_ _|refine kD ?_|refine kA ?_ _));exact BK209.out),(by (with_reducible repeat (first|refine kN ?_ _|refine kD ?_|refine kA ?_ _));exact BK223.out),GW223.out,GE223.out,NB207_223.out,NB223_207.out,NB208_223.out,NB223_208.out,NB209_223.out,NB223_209.out,(by repeat (first|(with_reducible first|exact HB.out|apply bA|apply bN|apply bD|refine bS ?_ GE207.out|refine bS ?_ GE208.out|refine bS ?_ GE209.out|refine bS ?_ GE223.out)|exact HB.out))⟩)
               ·skip
                rintro gb223 w13 ⟨hS_,h0_,h1_,h2_,h3_,h4_,h5_,h6_,h7_,h8_,h9_,h10_,h11_,h12_⟩
                have n0_ : Aside0 (w13.heap[gb207]? = some (.cells #[.int .i64 a0_0,.int .i64 a0_1,.int .i64 a0_2,.int .i64 a0_3] 35 (0,0))):=⟨h0_⟩
                have n1_ : Aside0 (w13.heap[gb208]? = some (.cells #[.int .i64 a1_0,.int .i64 a1_1,.int .i64 a1_2,.int .i64 a1_3] 35 (0,0))):=⟨h1_⟩
                have n2_ : Aside0 (w13.heap[gb209]? = some (.cells #[.int .u64 0,.int .u64 0,.int .u64 0,.int .u64 0] 79 (0,0))):=⟨h2_⟩
                have n3_ : Aside0 (w13.heap[gb223]? = some (.cells #[.int .u64 0,.int .u64 0,.int .u64 0,.int .u64 0] 79 (0,0))):=⟨h3_⟩
                have n4_ : Aside0 (w.heap.size ≤ gb223):=⟨h4_⟩
                have n5_ : Aside0 (w.heap.size ≤ gb223):=⟨h5_⟩
                have n6_ : Aside0 (gb207 ≠ gb223):=⟨h6_⟩
                have n7_ : Aside0 (gb223 ≠ gb207):=⟨h7_⟩
                have n8_ : Aside0 (gb208 ≠ gb223):=⟨h8_⟩
                have n9_ : Aside0 (gb223 ≠ gb208):=⟨h9_⟩
                have n10_ : Aside0 (gb209 ≠ gb223):=⟨h10_⟩
                have n11_ : Aside0 (gb223 ≠ gb209):=⟨h11_⟩
                have n12_ : Aside0 (Below w.heap.size w w13):=⟨h12_⟩
                clear BK207
                clear BK208
                clear BK209
                clear HB
                clear h0_ h1_ h2_ h3_ h4_ h5_ h6_ h7_ h8_ h9_ h10_ h11_ h12_
                have BK207:=n0_
                have BK208:=n1_
                have BK209:=n2_
                have BK223:=n3_
                have GW223:=n4_
                have GE223:=n5_
                have NB207_223:=n6_
                have NB223_207:=n7_
                have NB208_223:=n8_
                have NB223_208:=n9_
                have NB209_223:=n10_
                have NB223_209:=n11_
                have HB:=n12_
                clear n0_ n1_ n2_ n3_ n4_ n5_ n6_ n7_ n8_ n9_ n10_ n11_ n12_
                have hHeld : w13.cell? ⟨gb207,0,none⟩ = some (.int .i64 a0_0)∧w13.cell? ⟨gb207,1,none⟩ = some (.int .i64 a0_1)∧w13.cell? ⟨gb207,2,none⟩ = some (.int .i64 a0_2)∧w13.cell? ⟨gb207,3,none⟩ = some (.int .i64 a0_3)∧w13.cell? ⟨gb208,0,none⟩ = some (.int .i64 a1_0)∧w13.cell? ⟨gb208,1,none⟩ = some (.int .i64 a1_1)∧w13.cell? ⟨gb208,2,none⟩ = some (.int .i64 a1_2)∧w13.cell? ⟨gb208,3,none⟩ = some (.int .i64 a1_3):=hS_
                refine norm_ (a':=?_) ?_ ?_
                rotate_left
                ·simp only [putAll,Act.put,sA,sZ,sS]
                 rfl
                refine two_ (i:=2) (j:=6) (Ni:=some 10) (Nj:=some 5) #[tt,tt,tt,ff,tt,ff,ff,tt,ff,ff] #[tt,tt,ff,ff,tt,ff,tt,tt,ff,ff] rfl rfl rfl rfl (two_of HT_.out (by kernel_rfl)) (by decide) (by decide) (fun K hK => ?_) (fun K hK => ?_)
                ·skip
                 refine goes_ Try.func40 (by kernel_rfl) rfl #[.agg #[.int .i64 a0_0,.int .i64 a0_1,.int .i64 a0_2,.int .i64 a0_3],.agg #[.int .i64 a1_0,.int .i64 a1_1,.int .i64 a1_2,.int .i64 a1_3]] (by rfl) rfl rfl (by (try simp only [List.map_toArray,List.map_cons,List.map_nil]);first|done|rfl|(simp only [List.length_drop,List.length_take];rfl)) ?_
                 with_reducible refine (key_Union.calls a0_0 a0_1 a0_2 a0_3 a1_0 a1_1 a1_2 a1_3 t210 t211 t212 t213 _ A3.out).mono ?_
                 rintro e w14 ⟨rfl,hb⟩
                 refine ⟨_,rfl,?_⟩
                 have n0_:=Ak (kB (g:=gb207) (o:=.cells #[.int .i64 a0_0,.int .i64 a0_1,.int .i64 a0_2,.int .i64 a0_3] 35 (0,0)) (by (with_reducible repeat (first|refine kN ?_ _|refine kD ?_|refine kA ?_ _));exact BK207.out) hb)
                 have n1_:=Ak (kB (g:=gb208) (o:=.cells #[.int .i64 a1_0,.int .i64 a1_1,.int .i64 a1_2,.int .i64 a1_3] 35 (0,0)) (by (with_reducible repeat (first|refine kN ?_ _|refine kD ?_|refine kA ?_ _));exact BK208.out) hb)
                 have n2_:=Ak (kB (g:=gb209) (o:=.cells #[.int .u64 0,.int .u64 0,.int .u64 0,.int .u64 0] 79 (0,0)) (by (with_reducible repeat (first|refine kN ?_ _|refine kD ?_|refine kA ?_ _));exact BK209.out) hb)
                 have n3_:=Ak (kB (g:=gb223) (o:=.cells #[.int .u64 0,.int .u64 0,.int .u64 0,.int .u64 0] 79 (0,0)) (by (with_reducible repeat (first|refine kN ?_ _|refine kD ?_|refine kA ?_ _));exact BK223.out) hb)
                 have n4_:=Ak (below_step (by repeat (first|(with_reducible first|exact HB.out|apply bA|apply bN|apply bD|refine bS ?_ GE207.out|refine bS ?_ GE208.out|refine bS ?_ GE209.out|refine bS ?_ GE223.out)|exact HB.out)) hb)
                 clear BK207
                 clear BK208
                 clear BK209
                 clear BK223
                 clear HB
                 have BK207:=n0_
                 have BK208:=n1_
                 have BK209:=n2_
                 have BK223:=n3_
                 have HB:=n4_
                 clear n0_ n1_ n2_ n3_ n4_
                 (try clear hb)
                 (try clear hb2)
                 (try clear hk)
                 (try clear hi)
                 refine hK.out _ _ ⟨(kC BK207.out 0).trans rfl,(kC BK207.out 1).trans rfl,(kC BK207.out 2).trans rfl,(kC BK207.out 3).trans rfl,(kC BK208.out 0).trans rfl,(kC BK208.out 1).trans rfl,(kC BK208.out 2).trans rfl,(kC BK208.out 3).trans rfl⟩ (fun hHeld => ?_)
                 clear hK K
                 refine norm_ (a':=?_) ?_ ?_
                 rotate_left
                 ·show Act.put _ (some 10) _ = _
                  simp only [Act.put,sA,sZ,sS,i64_w,i32_w]
                  rfl
                 exact norm_ (by first|(simp only [putAll,Act.put,sA,sZ,sS];done)|(simp only [putAll,Act.put,sA,sZ,sS];rfl)) (hJ2_7 (gb223) _ ⟨hHeld,(by (with_reducible repeat (first|refine kN ?_ _|refine kD ?_|refine kA ?_ _));exact BK207.out),(by (with_reducible repeat (first|refine kN ?_ _|refine kD ?_|refine kA ?_ _));exact BK208.out),(by (with_reducible repeat (first|refine kN ?_ _|refine kD ?_|refine kA ?_ _));exact BK209.out),(by (with_reducible repeat (first|refine kN ?_ _|refine kD ?_|refine kA ?_ _));exact BK223.out),GW223.out,GE223.out,NB207_223.out,NB223_207.out,NB208_223.out,NB223_208.out,NB209_223.out,NB223_209.out,(by repeat (first|(with_reducible first|exact HB.out|apply bA|apply bN|apply bD|refine bS ?_ GE207.out|refine bS ?_ GE208.out|refine bS ?_ GE209.out|refine bS ?_ GE223.out)|exact HB.out))⟩)
                ·skip
                 refine box_step ?hg (N:=5) ?hd (cs:=#[.int .u64 0,.int .u64 0,.int .u64 0,.int .u64 0]) (t:=79) ?hr ?_;(case hd => rfl);(case hg => rfl);(case hr => first|(go_simp;done)|(go_simp;rfl))
                 intro gb222 hg w14 hbox hb
                 have n0_:=Ak (kB (g:=gb207) (o:=.cells #[.int .i64 a0_0,.int .i64 a0_1,.int .i64 a0_2,.int .i64 a0_3] 35 (0,0)) (by (with_reducible repeat (first|refine kN ?_ _|refine kD ?_|refine kA ?_ _));exact BK207.out) hb)
                 have n1_:=Ak (kB (g:=gb208) (o:=.cells #[.int .i64 a1_0,.int .i64 a1_1,.int .i64 a1_2,.int .i64 a1_3] 35 (0,0)) (by (with_reducible repeat (first|refine kN ?_ _|refine kD ?_|refine kA ?_ _));exact BK208.out) hb)
                 have n2_:=Ak (kB (g:=gb209) (o:=.cells #[.int .u64 0,.int .u64 0,.int .u64 0,.int .u64 0] 79 (0,0)) (by (with_reducible repeat (first|refine kN ?_ _|refine kD ?_|refine kA ?_ _));exact BK209.out) hb)
                 have n3_:=Ak (kB (g:=gb223) (o:=.cells #[.int .u64 0,.int .u64 0,.int .u64 0,.int .u64 0] 79 (0,0)) (by (with_reducible repeat (first|refine kN ?_ _|refine kD ?_|refine kA ?_ _));exact BK223.out) hb)
                 have n4_:=Ak (below_step (by repeat (first|(with_reducible first|exact HB.out|apply bA|apply bN|apply bD|refine bS ?_ GE207.out|refine bS ?_ GE208.out|refine bS ?_ GE209.out|refine bS ?_ GE223.out)|exact HB.out)) hb)
                 have n5_:=Ak (hbox)
                 have n6_:=Ak ((by rw [hg];exact (below_size (by repeat (first|(with_reducible first|exact HB.out|apply bA|apply bN|apply bD|refine bS ?_ GE207.out|refine bS ?_ GE208.out|refine bS ?_ GE209.out|refine bS ?_ GE223.out)|exact HB.out))) : w.heap.size ≤ gb222))
                 have n7_:=Ak ((by rw [hg];exact (below_size (by repeat (first|(with_reducible first|exact HB.out|apply bA|apply bN|apply bD|refine bS ?_ GE207.out|refine bS ?_ GE208.out|refine bS ?_ GE209.out|refine bS ?_ GE223.out)|exact HB.out))) : w.heap.size ≤ gb222))
                 have n8_:=Ak ((by rw [hg];exact Nat.ne_of_lt (blk_lt (g:=gb207) (o:=.cells #[.int .i64 a0_0,.int .i64 a0_1,.int .i64 a0_2,.int .i64 a0_3] 35 (0,0)) (by (with_reducible repeat (first|refine kN ?_ _|refine kD ?_|refine kA ?_ _));exact BK207.out)) : gb207 ≠ gb222))
                 have n9_:=Ak ((by rw [hg];exact Nat.ne_of_gt (blk_lt (g:=gb207) (o:=.cells #[.int .i64 a0_0,.int .i64 a0_1,.int .i64 a0_2,.int .i64 a0_3] 35 (0,0)) (by (with_reducible repeat (first|refine kN ?_ _|refine kD ?_|refine kA ?_ _));exact BK207.out)) : gb222 ≠ gb207))
                 have n10_:=Ak ((by rw [hg];exact Nat.ne_of_lt (blk_lt (g:=gb208) (o:=.cells #[.int .i64 a1_0,.int .i64 a1_1,.int .i64 a1_2,.int .i64 a1_3] 35 (0,0)) (by (with_reducible repeat (first|refine kN ?_ _|refine kD ?_|refine kA ?_ _));exact BK208.out)) : gb208 ≠ gb222))
                 have n11_:=Ak ((by rw [hg];exact Nat.ne_of_gt (blk_lt (g:=gb208) (o:=.cells #[.int .i64 a1_0,.int .i64 a1_1,.int .i64 a1_2,.int .i64 a1_3] 35 (0,0)) (by (with_reducible repeat (first|refine kN ?_ _|refine kD ?_|refine kA ?_ _));exact BK208.out)) : gb222 ≠ gb208))
                 have n12_:=Ak ((by rw [hg];exact Nat.ne_of_lt (blk_lt (g:=gb209) (o:=.cells #[.int .u64 0,.int .u64 0,.int .u64 0,.int .u64 0] 79 (0,0)) (by (with_reducible repeat (first|refine kN ?_ _|refine kD ?_|refine kA ?_ _));exact BK209.out)) : gb209 ≠ gb222))
                 have n13_:=Ak ((by rw [hg];exact Nat.ne_of_gt (blk_lt (g:=gb209) (o:=.cells #[.int .u64 0,.int .u64 0,.int .u64 0,.int .u64 0] 79 (0,0)) (by (with_reducible repeat (first|refine kN ?_ _|refine kD ?_|refine kA ?_ _));exact BK209.out)) : gb222 ≠ gb209))
                 have n14_:=Ak ((by rw [hg];exact Nat.ne_of_lt (blk_lt (g:=gb223) (o:=.cells #[.int .u64 0,.int .u64 0,.int .u64 0,.int .u64 0] 79 (0,0)) (by (with_reducible repeat (first|refine kN ?_ _|refine kD ?_|refine kA ?_ _));exact BK223.out)) : gb223 ≠ gb222))
                 have n15_:=Ak ((by rw [hg];exact Nat.ne_of_gt (blk_lt (g:=gb223) (o:=.cells #[.int .u64 0,.int .u64 0,.int .u64 0,.int .u64 0] 79 (0,0)) (by (with_reducible repeat (first|refine kN ?_ _|refine kD ?_|refine kA ?_ _));exact BK223.out)) : gb222 ≠ gb223))
                 clear BK207
                 clear BK208
                 clear BK209
                 clear BK223
                 clear HB
                 have BK207:=n0_
                 have BK208:=n1_
                 have BK209:=n2_
                 have BK223:=n3_
                 have HB:=n4_
                 have BK222:=n5_
                 have GW222:=n6_
                 have GE222:=n7_
                 have NB207_222:=n8_
                 have NB222_207:=n9_
                 have NB208_222:=n10_
                 have NB222_208:=n11_
                 have NB209_222:=n12_
                 have NB222_209:=n13_
                 have NB223_222:=n14_
                 have NB222_223:=n15_
                 clear n0_ n1_ n2_ n3_ n4_ n5_ n6_ n7_ n8_ n9_ n10_ n11_ n12_ n13_ n14_ n15_
                 clear hb hbox hg
                 refine hK.out _ _ ⟨(kC BK207.out 0).trans rfl,(kC BK207.out 1).trans rfl,(kC BK207.out 2).trans rfl,(kC BK207.out 3).trans rfl,(kC BK208.out 0).trans rfl,(kC BK208.out 1).trans rfl,(kC BK208.out 2).trans rfl,(kC BK208.out 3).trans rfl⟩ (fun hHeld => ?_)
                 clear hK K
                 refine norm_ (a':=?_) ?_ ?_
                 rotate_left
                 ·show Act.put _ (some 5) _ = _
                  simp only [Act.put,sA,sZ,sS,i64_w,i32_w]
                  rfl
                 exact norm_ (by first|(simp only [putAll,Act.put,sA,sZ,sS];done)|(simp only [putAll,Act.put,sA,sZ,sS];rfl)) (hJ6_7 (gb222,gb223) _ ⟨hHeld,(by (with_reducible repeat (first|refine kN ?_ _|refine kD ?_|refine kA ?_ _));exact BK207.out),(by (with_reducible repeat (first|refine kN ?_ _|refine kD ?_|refine kA ?_ _));exact BK208.out),(by (with_reducible repeat (first|refine kN ?_ _|refine kD ?_|refine kA ?_ _));exact BK209.out),(by (with_reducible repeat (first|refine kN ?_ _|refine kD ?_|refine kA ?_ _));exact BK222.out),(by (with_reducible repeat (first|refine kN ?_ _|refine kD ?_|refine kA ?_ _));exact BK223.out),GW222.out,GE222.out,NB207_222.out,NB222_207.out,NB208_222.out,NB222_208.out,NB209_222.out,NB222_209.out,NB223_222.out,NB222_223.out,GW223.out,GE223.out,NB207_223.out,NB223_207.out,NB208_223.out,NB223_208.out,NB209_223.out,NB223_209.out,(by repeat (first|(with_reducible first|exact HB.out|apply bA|apply bN|apply bD|refine bS ?_ GE207.out|refine bS ?_ GE208.out|refine bS ?_ GE209.out|refine bS ?_ GE223.out|refine bS ?_ GE222.out)|exact HB.out))⟩)
              ·skip
               rintro gb222 w13 ⟨hS_,h0_,h1_,h2_,h3_,h4_,h5_,h6_,h7_,h8_,h9_,h10_,h11_,h12_⟩
               have n0_ : Aside0 (w13.heap[gb207]? = some (.cells #[.int .i64 a0_0,.int .i64 a0_1,.int .i64 a0_2,.int .i64 a0_3] 35 (0,0))):=⟨h0_⟩
               have n1_ : Aside0 (w13.heap[gb208]? = some (.cells #[.int .i64 a1_0,.int .i64 a1_1,.int .i64 a1_2,.int .i64 a1_3] 35 (0,0))):=⟨h1_⟩
               have n2_ : Aside0 (w13.heap[gb209]? = some (.cells #[.int .u64 0,.int .u64 0,.int .u64 0,.int .u64 0] 79 (0,0))):=⟨h2_⟩
               have n3_ : Aside0 (w13.heap[gb222]? = some (.cells #[.int .u64 0,.int .u64 0,.int .u64 0,.int .u64 0] 79 (0,0))):=⟨h3_⟩
               have n4_ : Aside0 (w.heap.size ≤ gb222):=⟨h4_⟩
               have n5_ : Aside0 (w.heap.size ≤ gb222):=⟨h5_⟩
               have n6_ : Aside0 (gb207 ≠ gb222):=⟨h6_⟩
               have n7_ : Aside0 (gb222 ≠ gb207):=⟨h7_⟩
               have n8_ : Aside0 (gb208 ≠ gb222):=⟨h8_⟩
               have n9_ : Aside0 (gb222 ≠ gb208):=⟨h9_⟩
               have n10_ : Aside0 (gb209 ≠ gb222):=⟨h10_⟩
               have n11_ : Aside0 (gb222 ≠ gb209):=⟨h11_⟩
               have n12_ : Aside0 (Below w.heap.size w w13):=⟨h12_⟩
               clear BK207
               clear BK208
               clear BK209
               clear HB
               clear h0_ h1_ h2_ h3_ h4_ h5_ h6_ h7_ h8_ h9_ h10_ h11_ h12_
               have BK207:=n0_
               have BK208:=n1_
               have BK209:=n2_
               have BK222:=n3_
               have GW222:=n4_
               have GE222:=n5_
               have NB207_222:=n6_
               have NB222_207:=n7_
               have NB208_222:=n8_
               have NB222_208:=n9_
               have NB209_222:=n10_
               have NB222_209:=n11_
               have HB:=n12_
               clear n0_ n1_ n2_ n3_ n4_ n5_ n6_ n7_ n8_ n9_ n10_ n11_ n12_
               have hHeld : w13.cell? ⟨gb207,0,none⟩ = some (.int .i64 a0_0)∧w13.cell? ⟨gb207,1,none⟩ = some (.int .i64 a0_1)∧w13.cell? ⟨gb207,2,none⟩ = some (.int .i64 a0_2)∧w13.cell? ⟨gb207,3,none⟩ = some (.int .i64 a0_3)∧w13.cell? ⟨gb208,0,none⟩ = some (.int .i64 a1_0)∧w13.cell? ⟨gb208,1,none⟩ = some (.int .i64 a1_1)∧w13.cell? ⟨gb208,2,none⟩ = some (.int .i64 a1_2)∧w13.cell? ⟨gb208,3,none⟩ = some (.int .i64 a1_3):=hS_
               refine norm_ (a':=?_) ?_ ?_
               rotate_left
               ·simp only [putAll,Act.put,sA,sZ,sS]
                rfl
               refine two_ (i:=2) (j:=7) (Ni:=some 10) (Nj:=some 6) #[tt,tt,tt,ff,tt,ff,tt,ff,ff,ff] #[tt,tt,ff,ff,tt,ff,tt,tt,ff,ff] rfl rfl rfl rfl (two_of HT_.out (by kernel_rfl)) (by decide) (by decide) (fun K hK => ?_) (fun K hK => ?_)
               ·skip
                refine goes_ Try.func40 (by kernel_rfl) rfl #[.agg #[.int .i64 a0_0,.int .i64 a0_1,.int .i64 a0_2,.int .i64 a0_3],.agg #[.int .i64 a1_0,.int .i64 a1_1,.int .i64 a1_2,.int .i64 a1_3]] (by rfl) rfl rfl (by (try simp only [List.map_toArray,List.map_cons,List.map_nil]);first|done|rfl|(simp only [List.length_drop,List.length_take];rfl)) ?_
                with_reducible refine (key_Union.calls a0_0 a0_1 a0_2 a0_3 a1_0 a1_1 a1_2 a1_3 t210 t211 t212 t213 _ A3.out).mono ?_
                rintro e w14 ⟨rfl,hb⟩
                refine ⟨_,rfl,?_⟩
                have n0_:=Ak (kB (g:=gb207) (o:=.cells #[.int .i64 a0_0,.int .i64 a0_1,.int .i64 a0_2,.int .i64 a0_3] 35 (0,0)) (by (with_reducible repeat (first|refine kN ?_ _|refine kD ?_|refine kA ?_ _));exact BK207.out) hb)
                have n1_:=Ak (kB (g:=gb208) (o:=.cells #[.int .i64 a1_0,.int .i64 a1_1,.int .i64 a1_2,.int .i64 a1_3] 35 (0,0)) (by (with_reducible repeat (first|refine kN ?_ _|refine kD ?_|refine kA ?_ _));exact BK208.out) hb)
                have n2_:=Ak (kB (g:=gb209) (o:=.cells #[.int .u64 0,.int .u64 0,.int .u64 0,.int .u64 0] 79 (0,0)) (by (with_reducible repeat (first|refine kN ?_ _|refine kD ?_|refine kA ?_ _));exact BK209.out) hb)
                have n3_:=Ak (kB (g:=gb222) (o:=.cells #[.int .u64 0,.int .u64 0,.int .u64 0,.int .u64 0] 79 (0,0)) (by (with_reducible repeat (first|refine kN ?_ _|refine kD ?_|refine kA ?_ _));exact BK222.out) hb)
                have n4_:=Ak (below_step (by repeat (first|(with_reducible first|exact HB.out|apply bA|apply bN|apply bD|refine bS ?_ GE207.out|refine bS ?_ GE208.out|refine bS ?_ GE209.out|refine bS ?_ GE222.out)|exact HB.out)) hb)
                clear BK207
                clear BK208
                clear BK209
                clear BK222
                clear HB
                have BK207:=n0_
                have BK208:=n1_
                have BK209:=n2_
                have BK222:=n3_
                have HB:=n4_
                clear n0_ n1_ n2_ n3_ n4_
                (try clear hb)
                (try clear hb2)
                (try clear hk)
                (try clear hi)
                refine hK.out _ _ ⟨(kC BK207.out 0).trans rfl,(kC BK207.out 1).trans rfl,(kC BK207.out 2).trans rfl,(kC BK207.out 3).trans rfl,(kC BK208.out 0).trans rfl,(kC BK208.out 1).trans rfl,(kC BK208.out 2).trans rfl,(kC BK208.out 3).trans rfl⟩ (fun hHeld => ?_)
                clear hK K
                refine norm_ (a':=?_) ?_ ?_
                rotate_left
                ·show Act.put _ (some 10) _ = _
                 simp only [Act.put,sA,sZ,sS,i64_w,i32_w]
                 rfl
                exact norm_ (by first|(simp only [putAll,Act.put,sA,sZ,sS];done)|(simp only [putAll,Act.put,sA,sZ,sS];rfl)) (hJ2_6 (gb222) _ ⟨hHeld,(by (with_reducible repeat (first|refine kN ?_ _|refine kD ?_|refine kA ?_ _));exact BK207.out),(by (with_reducible repeat (first|refine kN ?_ _|refine kD ?_|refine kA ?_ _));exact BK208.out),(by (with_reducible repeat (first|refine kN ?_ _|refine kD ?_|refine kA ?_ _));exact BK209.out),(by (with_reducible repeat (first|refine kN ?_ _|refine kD ?_|refine kA ?_ _));exact BK222.out),GW222.out,GE222.out,NB207_222.out,NB222_207.out,NB208_222.out,NB222_208.out,NB209_222.out,NB222_209.out,(by repeat (first|(with_reducible first|exact HB.out|apply bA|apply bN|apply bD|refine bS ?_ GE207.out|refine bS ?_ GE208.out|refine bS ?_ GE209.out|refine bS ?_ GE222.out)|exact HB.out))⟩)
               ·skip
                refine box_step ?hg (N:=6) ?hd (cs:=#[.int .u64 0,.int .u64 0,.int .u64 0,.int .u64 0]) (t:=79) ?hr ?_;(case hd => rfl);(case hg => rfl);(case hr => first|(go_simp;done)|(go_simp;rfl))
                intro gb223 hg w14 hbox hb
                have n0_:=Ak (kB (g:=gb207) (o:=.cells #[.int .i64 a0_0,.int .i64 a0_1,.int .i64 a0_2,.int .i64 a0_3] 35 (0,0)) (by (with_reducible repeat (first|refine kN ?_ _|refine kD ?_|refine kA ?_ _));exact BK207.out) hb)
                have n1_:=Ak (kB (g:=gb208) (o:=.cells #[.int .i64 a1_0,.int .i64 a1_1,.int .i64 a1_2,.int .i64 a1_3] 35 (0,0)) (by (with_reducible repeat (first|refine kN ?_ _|refine kD ?_|refine kA ?_ _));exact BK208.out) hb)
                have n2_:=Ak (kB (g:=gb209) (o:=.cells #[.int .u64 0,.int .u64 0,.int .u64 0,.int .u64 0] 79 (0,0)) (by (with_reducible repeat (first|refine kN ?_ _|refine kD ?_|refine kA ?_ _));exact BK209.out) hb)
                have n3_:=Ak (kB (g:=gb222) (o:=.cells #[.int .u64 0,.int .u64 0,.int .u64 0,.int .u64 0] 79 (0,0)) (by (with_reducible repeat (first|refine kN ?_ _|refine kD ?_|refine kA ?_ _));exact BK222.out) hb)
                have n4_:=Ak (below_step (by repeat (first|(with_reducible first|exact HB.out|apply bA|apply bN|apply bD|refine bS ?_ GE207.out|refine bS ?_ GE208.out|refine bS ?_ GE209.out|refine bS ?_ GE222.out)|exact HB.out)) hb)
                have n5_:=Ak (hbox)
                have n6_:=Ak ((by rw [hg];exact (below_size (by repeat (first|(with_reducible first|exact HB.out|apply bA|apply bN|apply bD|refine bS ?_ GE207.out|refine bS ?_ GE208.out|refine bS ?_ GE209.out|refine bS ?_ GE222.out)|exact HB.out))) : w.heap.size ≤ gb223))
                have n7_:=Ak ((by rw [hg];exact (below_size (by repeat (first|(with_reducible first|exact HB.out|apply bA|apply bN|apply bD|refine bS ?_ GE207.out|refine bS ?_ GE208.out|refine bS ?_ GE209.out|refine bS ?_ GE222.out)|exact HB.out))) : w.heap.size ≤ gb223))
                have n8_:=Ak ((by rw [hg];exact Nat.ne_of_lt (blk_lt (g:=gb207) (o:=.cells #[.int .i64 a0_0,.int .i64 a0_1,.int .i64 a0_2,.int .i64 a0_3] 35 (0,0)) (by (with_reducible repeat (first|refine kN ?_ _|refine kD ?_|refine kA ?_ _));exact BK207.out)) : gb207 ≠ gb223))
                have n9_:=Ak ((by rw [hg];exact Nat.ne_of_gt (blk_lt (g:=gb207) (o:=.cells #[.int .i64 a0_0,.int .i64 a0_1,.int .i64 a0_2,.int .i64 a0_3] 35 (0,0)) (by (with_reducible repeat (first|refine kN ?_ _|refine kD ?_|refine kA ?_ _));exact BK207.out)) : gb223 ≠ gb207))
                have n10_:=Ak ((by rw [hg];exact Nat.ne_of_lt (blk_lt (g:=gb208) (o:=.cells #[.int .i64 a1_0,.int .i64 a1_1,.int .i64 a1_2,.int .i64 a1_3] 35 (0,0)) (by (with_reducible repeat (first|refine kN ?_ _|refine kD ?_|refine kA ?_ _));exact BK208.out)) : gb208 ≠ gb223))
                have n11_:=Ak ((by rw [hg];exact Nat.ne_of_gt (blk_lt (g:=gb208) (o:=.cells #[.int .i64 a1_0,.int .i64 a1_1,.int .i64 a1_2,.int .i64 a1_3] 35 (0,0)) (by (with_reducible repeat (first|refine kN ?_ _|refine kD ?_|refine kA ?_ _));exact BK208.out)) : gb223 ≠ gb208))
                have n12_:=Ak ((by rw [hg];exact Nat.ne_of_lt (blk_lt (g:=gb209) (o:=.cells #[.int .u64 0,.int .u64 0,.int .u64 0,.int .u64 0] 79 (0,0)) (by (with_reducible repeat (first|refine kN ?_ _|refine kD ?_|refine kA ?_ _));exact BK209.out)) : gb209 ≠ gb223))
                have n13_:=Ak ((by rw [hg];exact Nat.ne_of_gt (blk_lt (g:=gb209) (o:=.cells #[.int .u64 0,.int .u64 0,.int .u64 0,.int .u64 0] 79 (0,0)) (by (with_reducible repeat (first|refine kN ?_ _|refine kD ?_|refine kA ?_ _));exact BK209.out)) : gb223 ≠ gb209))
                have n14_:=Ak ((by rw [hg];exact Nat.ne_of_lt (blk_lt (g:=gb222) (o:=.cells #[.int .u64 0,.int .u64 0,.int .u64 0,.int .u64 0] 79 (0,0)) (by (with_reducible repeat (first|refine kN ?_ _|refine kD ?_|refine kA ?_ _));exact BK222.out)) : gb222 ≠ gb223))
                have n15_:=Ak ((by rw [hg];exact Nat.ne_of_gt (blk_lt (g:=gb222) (o:=.cells #[.int .u64 0,.int .u64 0,.int .u64 0,.int .u64 0] 79 (0,0)) (by (with_reducible repeat (first|refine kN ?_ _|refine kD ?_|refine kA ?_ _));exact BK222.out)) : gb223 ≠ gb222))
                clear BK207
                clear BK208
                clear BK209
                clear BK222
                clear HB
                have BK207:=n0_
                have BK208:=n1_
                have BK209:=n2_
                have BK222:=n3_
                have HB:=n4_
                have BK223:=n5_
                have GW223:=n6_
                have GE223:=n7_
                have NB207_223:=n8_
                have NB223_207:=n9_
                have NB208_223:=n10_
                have NB223_208:=n11_
                have NB209_223:=n12_
                have NB223_209:=n13_
                have NB222_223:=n14_
                have NB223_222:=n15_
                clear n0_ n1_ n2_ n3_ n4_ n5_ n6_ n7_ n8_ n9_ n10_ n11_ n12_ n13_ n14_ n15_
                clear hb hbox hg
                refine hK.out _ _ ⟨(kC BK207.out 0).trans rfl,(kC BK207.out 1).trans rfl,(kC BK207.out 2).trans rfl,(kC BK207.out 3).trans rfl,(kC BK208.out 0).trans rfl,(kC BK208.out 1).trans rfl,(kC BK208.out 2).trans rfl,(kC BK208.out 3).trans rfl⟩ (fun hHeld => ?_)
                clear hK K
                refine norm_ (a':=?_) ?_ ?_
                rotate_left
                ·show Act.put _ (some 6) _ = _
                 simp only [Act.put,sA,sZ,sS,i64_w,i32_w]
                 rfl
                exact norm_ (by first|(simp only [putAll,Act.put,sA,sZ,sS];done)|(simp only [putAll,Act.put,sA,sZ,sS];rfl)) (hJ6_7 (gb222,gb223) _ ⟨hHeld,(by (with_reducible repeat (first|refine kN ?_ _|refine kD ?_|refine kA ?_ _));exact BK207.out),(by (with_reducible repeat (first|refine kN ?_ _|refine kD ?_|refine kA ?_ _));exact BK208.out),(by (with_reducible repeat (first|refine kN ?_ _|refine kD ?_|refine kA ?_ _));exact BK209.out),(by (with_reducible repeat (first|refine kN ?_ _|refine kD ?_|refine kA ?_ _));exact BK222.out),(by (with_reducible repeat (first|refine kN ?_ _|refine kD ?_|refine kA ?_ _));exact BK223.out),GW222.out,GE222.out,NB207_222.out,NB222_207.out,NB208_222.out,NB222_208.out,NB209_222.out,NB222_209.out,NB223_222.out,NB222_223.out,GW223.out,GE223.out,NB207_223.out,NB223_207.out,NB208_223.out,NB223_208.out,NB209_223.out,NB223_209.out,(by repeat (first|(with_reducible first|exact HB.out|apply bA|apply bN|apply bD|refine bS ?_ GE207.out|refine bS ?_ GE208.out|refine bS ?_ GE209.out|refine bS ?_ GE222.out|refine bS ?_ GE223.out)|exact HB.out))⟩)
             ·skip
              rintro _ w13 ⟨hS_,h0_,h1_,h2_,h3_⟩
              have n0_ : Aside0 (w13.heap[gb207]? = some (.cells #[.int .i64 a0_0,.int .i64 a0_1,.int .i64 a0_2,.int .i64 a0_3] 35 (0,0))):=⟨h0_⟩
              have n1_ : Aside0 (w13.heap[gb208]? = some (.cells #[.int .i64 a1_0,.int .i64 a1_1,.int .i64 a1_2,.int .i64 a1_3] 35 (0,0))):=⟨h1_⟩
              have n2_ : Aside0 (w13.heap[gb209]? = some (.cells #[.int .u64 0,.int .u64 0,.int .u64 0,.int .u64 0] 79 (0,0))):=⟨h2_⟩
              have n3_ : Aside0 (Below w.heap.size w w13):=⟨h3_⟩
              clear BK207
              clear BK208
              clear BK209
              clear HB
              clear h0_ h1_ h2_ h3_
              have BK207:=n0_
              have BK208:=n1_
              have BK209:=n2_
              have HB:=n3_
              clear n0_ n1_ n2_ n3_
              have hHeld : w13.cell? ⟨gb207,0,none⟩ = some (.int .i64 a0_0)∧w13.cell? ⟨gb207,1,none⟩ = some (.int .i64 a0_1)∧w13.cell? ⟨gb207,2,none⟩ = some (.int .i64 a0_2)∧w13.cell? ⟨gb207,3,none⟩ = some (.int .i64 a0_3)∧w13.cell? ⟨gb208,0,none⟩ = some (.int .i64 a1_0)∧w13.cell? ⟨gb208,1,none⟩ = some (.int .i64 a1_1)∧w13.cell? ⟨gb208,2,none⟩ = some (.int .i64 a1_2)∧w13.cell? ⟨gb208,3,none⟩ = some (.int .i64 a1_3):=hS_
              refine norm_ (a':=?_) ?_ ?_
              rotate_left
              ·simp only [putAll,Act.put,sA,sZ,sS]
               rfl
              refine three_ (i:=3) (j:=6) (k:=7) (Ni:=some 11) (Nj:=some 5) (Nk:=some 6) #[tt,tt,tt,tt,tt,ff,ff,ff,ff,ff] #[tt,tt,tt,ff,tt,ff,tt,ff,ff,ff] #[tt,tt,tt,ff,tt,ff,ff,tt,ff,ff] rfl rfl rfl rfl rfl rfl (three_of HT_.out (by kernel_rfl)) (by decide) (by decide) (by decide) (fun K hK => ?_) (fun K hK => ?_) (fun K hK => ?_)
              ·skip
               refine goes_ Try.func64 (by kernel_rfl) rfl #[.agg #[.int .i64 t210,.int .i64 t211,.int .i64 t212,.int .i64 t213]] (by rfl) rfl rfl (by (try simp only [List.map_toArray,List.map_cons,List.map_nil]);first|done|rfl|(simp only [List.length_drop,List.length_take];rfl)) ?_
               with_reducible refine (key_of.calls t210 t211 t212 t213 t214 t215 t216 t217 _ A4.out).mono ?_
               rintro e w14 ⟨rfl,hb⟩
               refine ⟨_,rfl,?_⟩
               have n0_:=Ak (kB (g:=gb207) (o:=.cells #[.int .i64 a0_0,.int .i64 a0_1,.int .i64 a0_2,.int .i64 a0_3] 35 (0,0)) (by (with_reducible repeat (first|refine kN ?_ _|refine kD ?_|refine kA ?_ _));exact BK207.out) hb)
               have n1_:=Ak (kB (g:=gb208) (o:=.cells #[.int .i64 a1_0,.int .i64 a1_1,.int .i64 a1_2,.int .i64 a1_3] 35 (0,0)) (by (with_reducible repeat (first|refine kN ?_ _|refine kD ?_|refine kA ?_ _));exact BK208.out) hb)
               have n2_:=Ak (kB (g:=gb209) (o:=.cells #[.int .u64 0,.int .u64 0,.int .u64 0,.int .u64 0] 79 (0,0)) (by (with_reducible repeat (first|refine kN ?_ _|refine kD ?_|refine kA ?_ _));exact BK209.out) hb)
               have n3_:=Ak (below_step (by repeat (first|(with_reducible first|exact HB.out|apply bA|apply bN|apply bD|refine bS ?_ GE207.out|refine bS ?_ GE208.out|refine bS ?_ GE209.out)|exact HB.out)) hb)
               clear BK207
               clear BK208
               clear BK209
               clear HB
               have BK207:=n0_
               have BK208:=n1_
               have BK209:=n2_
               have HB:=n3_
               clear n0_ n1_ n2_ n3_
               (try clear hb)
               (try clear hb2)
               (try clear hk)
               (try clear hi)
               refine hK.out _ _ ⟨(kC BK207.out 0).trans rfl,(kC BK207.out 1).trans rfl,(kC BK207.out 2).trans rfl,(kC BK207.out 3).trans rfl,(kC BK208.out 0).trans rfl,(kC BK208.out 1).trans rfl,(kC BK208.out 2).trans rfl,(kC BK208.out 3).trans rfl⟩ (fun hHeld => ?_)
               clear hK K
               refine norm_ (a':=?_) ?_ ?_
               rotate_left
               ·show Act.put _ (some 11) _ = _
                simp only [Act.put,sA,sZ,sS,i64_w,i32_w]
                rfl
               exact norm_ (by first|(simp only [putAll,Act.put,sA,sZ,sS];done)|(simp only [putAll,Act.put,sA,sZ,sS];rfl)) (hJ2_3 () _ ⟨hHeld,(by (with_reducible repeat (first|refine kN ?_ _|refine kD ?_|refine kA ?_ _));exact BK207.out),(by (with_reducible repeat (first|refine kN ?_ _|refine kD ?_|refine kA ?_ _));exact BK208.out),(by (with_reducible repeat (first|refine kN ?_ _|refine kD ?_|refine kA ?_ _));exact BK209.out),(by repeat (first|(with_reducible first|exact HB.out|apply bA|apply bN|apply bD|refine bS ?_ GE207.out|refine bS ?_ GE208.out|refine bS ?_ GE209.out)|exact HB.out))⟩)
              ·skip
               refine box_step ?hg (N:=5) ?hd (cs:=#[.int .u64 0,.int .u64 0,.int .u64 0,.int .u64 0]) (t:=79) ?hr ?_;(case hd => rfl);(case hg => rfl);(case hr => first|(go_simp;done)|(go_simp;rfl))
               intro gb222 hg w14 hbox hb
               have n0_:=Ak (kB (g:=gb207) (o:=.cells #[.int .i64 a0_0,.int .i64 a0_1,.int .i64 a0_2,.int .i64 a0_3] 35 (0,0)) (by (with_reducible repeat (first|refine kN ?_ _|refine kD ?_|refine kA ?_ _));exact BK207.out) hb)
               have n1_:=Ak (kB (g:=gb208) (o:=.cells #[.int .i64 a1_0,.int .i64 a1_1,.int .i64 a1_2,.int .i64 a1_3] 35 (0,0)) (by (with_reducible repeat (first|refine kN ?_ _|refine kD ?_|refine kA ?_ _));exact BK208.out) hb)
               have n2_:=Ak (kB (g:=gb209) (o:=.cells #[.int .u64 0,.int .u64 0,.int .u64 0,.int .u64 0] 79 (0,0)) (by (with_reducible repeat (first|refine kN ?_ _|refine kD ?_|refine kA ?_ _));exact BK209.out) hb)
               have n3_:=Ak (below_step (by repeat (first|(with_reducible first|exact HB.out|apply bA|apply bN|apply bD|refine bS ?_ GE207.out|refine bS ?_ GE208.out|refine bS ?_ GE209.out)|exact HB.out)) hb)
               have n4_:=Ak (hbox)
               have n5_:=Ak ((by rw [hg];exact (below_size (by repeat (first|(with_reducible first|exact HB.out|apply bA|apply bN|apply bD|refine bS ?_ GE207.out|refine bS ?_ GE208.out|refine bS ?_ GE209.out)|exact HB.out))) : w.heap.size ≤ gb222))
               have n6_:=Ak ((by rw [hg];exact (below_size (by repeat (first|(with_reducible first|exact HB.out|apply bA|apply bN|apply bD|refine bS ?_ GE207.out|refine bS ?_ GE208.out|refine bS ?_ GE209.out)|exact HB.out))) : w.heap.size ≤ gb222))
               have n7_:=Ak ((by rw [hg];exact Nat.ne_of_lt (blk_lt (g:=gb207) (o:=.cells #[.int .i64 a0_0,.int .i64 a0_1,.int .i64 a0_2,.int .i64 a0_3] 35 (0,0)) (by (with_reducible repeat (first|refine kN ?_ _|refine kD ?_|refine kA ?_ _));exact BK207.out)) : gb207 ≠ gb222))
               have n8_:=Ak ((by rw [hg];exact Nat.ne_of_gt (blk_lt (g:=gb207) (o:=.cells #[.int .i64 a0_0,.int .i64 a0_1,.int .i64 a0_2,.int .i64 a0_3] 35 (0,0)) (by (with_reducible repeat (first|refine kN ?_ _|refine kD ?_|refine kA ?_ _));exact BK207.out)) : gb222 ≠ gb207))
               have n9_:=Ak ((by rw [hg];exact Nat.ne_of_lt (blk_lt (g:=gb208) (o:=.cells #[.int .i64 a1_0,.int .i64 a1_1,.int .i64 a1_2,.int .i64 a1_3] 35 (0,0)) (by (with_reducible repeat (first|refine kN ?_ _|refine kD ?_|refine kA ?_ _));exact BK208.out)) : gb208 ≠ gb222))
               have n10_:=Ak ((by rw [hg];exact Nat.ne_of_gt (blk_lt (g:=gb208) (o:=.cells #[.int .i64 a1_0,.int .i64 a1_1,.int .i64 a1_2,.int .i64 a1_3] 35 (0,0)) (by (with_reducible repeat (first|refine kN ?_ _|refine kD ?_|refine kA ?_ _));exact BK208.out)) : gb222 ≠ gb208))
               have n11_:=Ak ((by rw [hg];exact Nat.ne_of_lt (blk_lt (g:=gb209) (o:=.cells #[.int .u64 0,.int .u64 0,.int .u64 0,.int .u64 0] 79 (0,0)) (by (with_reducible repeat (first|refine kN ?_ _|refine kD ?_|refine kA ?_ _));exact BK209.out)) : gb209 ≠ gb222))
               have n12_:=Ak ((by rw [hg];exact Nat.ne_of_gt (blk_lt (g:=gb209) (o:=.cells #[.int .u64 0,.int .u64 0,.int .u64 0,.int .u64 0] 79 (0,0)) (by (with_reducible repeat (first|refine kN ?_ _|refine kD ?_|refine kA ?_ _));exact BK209.out)) : gb222 ≠ gb209))
               clear BK207
               clear BK208
               clear BK209
               clear HB
               have BK207:=n0_
               have BK208:=n1_
               have BK209:=n2_
               have HB:=n3_
               have BK222:=n4_
               have GW222:=n5_
               have GE222:=n6_
               have NB207_222:=n7_
               have NB222_207:=n8_
               have NB208_222:=n9_
               have NB222_208:=n10_
               have NB209_222:=n11_
               have NB222_209:=n12_
               clear n0_ n1_ n2_ n3_ n4_ n5_ n6_ n7_ n8_ n9_ n10_ n11_ n12_
               clear hb hbox hg
               refine hK.out _ _ ⟨(kC BK207.out 0).trans rfl,(kC BK207.out 1).trans rfl,(kC BK207.out 2).trans rfl,(kC BK207.out 3).trans rfl,(kC BK208.out 0).trans rfl,(kC BK208.out 1).trans rfl,(kC BK208.out 2).trans rfl,(kC BK208.out 3).trans rfl⟩ (fun hHeld => ?_)
               clear hK K
               refine norm_ (a':=?_) ?_ ?_
               rotate_left
               ·show Act.put _ (some 5) _ = _
                simp only [Act.put,sA,sZ,sS,i64_w,i32_w]
                rfl
               exact norm_ (by first|(simp only [putAll,Act.put,sA,sZ,sS];done)|(simp only [putAll,Act.put,sA,sZ,sS];rfl)) (hJ2_6 (gb222) _ ⟨hHeld,(by (with_reducible repeat (first|refine kN ?_ _|refine kD ?_|refine kA ?_ _));exact BK207.out),(by (with_reducible repeat (first|refine kN ?_ _|refine kD ?_|refine kA ?_ _));exact BK208.out),(by (with_reducible repeat (first|refine kN ?_ _|refine kD ?_|refine kA ?_ _));exact BK209.out),(by (with_reducible repeat (first|refine kN ?_ _|refine kD ?_|refine kA ?_ _));exact BK222.out),GW222.out,GE222.out,NB207_222.out,NB222_207.out,NB208_222.out,NB222_208.out,NB209_222.out,NB222_209.out,(by repeat (first|(with_reducible first|exact HB.out|apply bA|apply bN|apply bD|refine bS ?_ GE207.out|refine bS ?_ GE208.out|refine bS ?_ GE209.out|refine bS ?_ GE222.out)|exact HB.out))⟩)
              ·skip
               refine box_step ?hg (N:=6) ?hd (cs:=#[.int .u64 0,.int .u64 0,.int .u64 0,.int .u64 0]) (t:=79) ?hr ?_;(case hd => rfl);(case hg => rfl);(case hr => first|(go_simp;done)|(go_simp;rfl))
               intro gb223 hg w14 hbox hb
               have n0_:=Ak (kB (g:=gb207) (o:=.cells #[.int .i64 a0_0,.int .i64 a0_1,.int .i64 a0_2,.int .i64 a0_3] 35 (0,0)) (by (with_reducible repeat (first|refine kN ?_ _|refine kD ?_|refine kA ?_ _));exact BK207.out) hb)
               have n1_:=Ak (kB (g:=gb208) (o:=.cells #[.int .i64 a1_0,.int .i64 a1_1,.int .i64 a1_2,.int .i64 a1_3] 35 (0,0)) (by (with_reducible repeat (first|refine kN ?_ _|refine kD ?_|refine kA ?_ _));exact BK208.out) hb)
               have n2_:=Ak (kB (g:=gb209) (o:=.cells #[.int .u64 0,.int .u64 0,.int .u64 0,.int .u64 0] 79 (0,0)) (by (with_reducible repeat (first|refine kN ?_ _|refine kD ?_|refine kA ?_ _));exact BK209.out) hb)
               have n3_:=Ak (below_step (by repeat (first|(with_reducible first|exact HB.out|apply bA|apply bN|apply bD|refine bS ?_ GE207.out|refine bS ?_ GE208.out|refine bS ?_ GE209.out)|exact HB.out)) hb)
               have n4_:=Ak (hbox)
               have n5_:=Ak ((by rw [hg];exact (below_size (by repeat (first|(with_reducible first|exact HB.out|apply bA|apply bN|apply bD|refine bS ?_ GE207.out|refine bS ?_ GE208.out|refine bS ?_ GE209.out)|exact HB.out))) : w.heap.size ≤ gb223))
               have n6_:=Ak ((by rw [hg];exact (below_size (by repeat (first|(with_reducible first|exact HB.out|apply bA|apply bN|apply bD|refine bS ?_ GE207.out|refine bS ?_ GE208.out|refine bS ?_ GE209.out)|exact HB.out))) : w.heap.size ≤ gb223))
               have n7_:=Ak ((by rw [hg];exact Nat.ne_of_lt (blk_lt (g:=gb207) (o:=.cells #[.int .i64 a0_0,.int .i64 a0_1,.int .i64 a0_2,.int .i64 a0_3] 35 (0,0)) (by (with_reducible repeat (first|refine kN ?_ _|refine kD ?_|refine kA ?_ _));exact BK207.out)) : gb207 ≠ gb223))
               have n8_:=Ak ((by rw [hg];exact Nat.ne_of_gt (blk_lt (g:=gb207) (o:=.cells #[.int .i64 a0_0,.int .i64 a0_1,.int .i64 a0_2,.int .i64 a0_3] 35 (0,0)) (by (with_reducible repeat (first|refine kN ?_ _|refine kD ?_|refine kA ?_ _));exact BK207.out)) : gb223 ≠ gb207))
               have n9_:=Ak ((by rw [hg];exact Nat.ne_of_lt (blk_lt (g:=gb208) (o:=.cells #[.int .i64 a1_0,.int .i64 a1_1,.int .i64 a1_2,.int .i64 a1_3] 35 (0,0)) (by (with_reducible repeat (first|refine kN ?_ _|refine kD ?_|refine kA ?_ _));exact BK208.out)) : gb208 ≠ gb223))
               have n10_:=Ak ((by rw [hg];exact Nat.ne_of_gt (blk_lt (g:=gb208) (o:=.cells #[.int .i64 a1_0,.int .i64 a1_1,.int .i64 a1_2,.int .i64 a1_3] 35 (0,0)) (by (with_reducible repeat (first|refine kN ?_ _|refine kD ?_|refine kA ?_ _));exact BK208.out)) : gb223 ≠ gb208))
               have n11_:=Ak ((by rw [hg];exact Nat.ne_of_lt (blk_lt (g:=gb209) (o:=.cells #[.int .u64 0,.int .u64 0,.int .u64 0,.int .u64 0] 79 (0,0)) (by (with_reducible repeat (first|refine kN ?_ _|refine kD ?_|refine kA ?_ _));exact BK209.out)) : gb209 ≠ gb223))
               have n12_:=Ak ((by rw [hg];exact Nat.ne_of_gt (blk_lt (g:=gb209) (o:=.cells #[.int .u64 0,.int .u64 0,.int .u64 0,.int .u64 0] 79 (0,0)) (by (with_reducible repeat (first|refine kN ?_ _|refine kD ?_|refine kA ?_ _));exact BK209.out)) : gb223 ≠ gb209))
               clear BK207
               clear BK208
               clear BK209
               clear HB
               have BK207:=n0_
               have BK208:=n1_
               have BK209:=n2_
               have HB:=n3_
               have BK223:=n4_
               have GW223:=n5_
               have GE223:=n6_
               have NB207_223:=n7_
               have NB223_207:=n8_
               have NB208_223:=n9_
               have NB223_208:=n10_
               have NB209_223:=n11_
               have NB223_209:=n12_
               clear n0_ n1_ n2_ n3_ n4_ n5_ n6_ n7_ n8_ n9_ n10_ n11_ n12_
               clear hb hbox hg
               refine hK.out _ _ ⟨(kC BK207.out 0).trans rfl,(kC BK207.out 1).trans rfl,(kC BK207.out 2).trans rfl,(kC BK207.out 3).trans rfl,(kC BK208.out 0).trans rfl,(kC BK208.out 1).trans rfl,(kC BK208.out 2).trans rfl,(kC BK208.out 3).trans rfl⟩ (fun hHeld => ?_)
               clear hK K
               refine norm_ (a':=?_) ?_ ?_
               rotate_left
               ·show Act.put _ (some 6) _ = _
                simp only [Act.put,sA,sZ,sS,i64_w,i32_w]
                rfl
               exact norm_ (by first|(simp only [putAll,Act.put,sA,sZ,sS];done)|(simp only [putAll,Act.put,sA,sZ,sS];rfl)) (hJ2_7 (gb223) _ ⟨hHeld,(by (with_reducible repeat (first|refine kN ?_ _|refine kD ?_|refine kA ?_ _));exact BK207.out),(by (with_reducible repeat (first|refine kN ?_ _|refine kD ?_|refine kA ?_ _));exact BK208.out),(by (with_reducible repeat (first|refine kN ?_ _|refine kD ?_|refine kA ?_ _));exact BK209.out),(by (with_reducible repeat (first|refine kN ?_ _|refine kD ?_|refine kA ?_ _));exact BK223.out),GW223.out,GE223.out,NB207_223.out,NB223_207.out,NB208_223.out,NB223_208.out,NB209_223.out,NB223_209.out,(by repeat (first|(with_reducible first|exact HB.out|apply bA|apply bN|apply bD|refine bS ?_ GE207.out|refine bS ?_ GE208.out|refine bS ?_ GE209.out|refine bS ?_ GE223.out)|exact HB.out))⟩)
            ·skip
             rintro ⟨gb222,gb223⟩ w14 ⟨hS_,h0_,h1_,h2_,h3_,h4_,h5_,h6_,h7_,h8_,h9_,h10_,h11_,h12_,h13_,h14_,h15_,h16_,h17_,h18_,h19_,h20_,h21_,h22_,h23_⟩
             have n0_ : Aside0 (w14.heap[gb207]? = some (.cells #[.int .i64 a0_0,.int .i64 a0_1,.int .i64 a0_2,.int .i64 a0_3] 35 (0,0))):=⟨h0_⟩
             have n1_ : Aside0 (w14.heap[gb208]? = some (.cells #[.int .i64 a1_0,.int .i64 a1_1,.int .i64 a1_2,.int .i64 a1_3] 35 (0,0))):=⟨h1_⟩
             have n2_ : Aside0 (w14.heap[gb209]? = some (.cells #[.int .u64 0,.int .u64 0,.int .u64 0,.int .u64 0] 79 (0,0))):=⟨h2_⟩
             have n3_ : Aside0 (w14.heap[gb222]? = some (.cells #[.int .u64 0,.int .u64 0,.int .u64 0,.int .u64 0] 79 (0,0))):=⟨h3_⟩
             have n4_ : Aside0 (w14.heap[gb223]? = some (.cells #[.int .u64 0,.int .u64 0,.int .u64 0,.int .u64 0] 79 (0,0))):=⟨h4_⟩
             have n5_ : Aside0 (w.heap.size ≤ gb222):=⟨h5_⟩
             have n6_ : Aside0 (w.heap.size ≤ gb222):=⟨h6_⟩
             have n7_ : Aside0 (gb207 ≠ gb222):=⟨h7_⟩
             have n8_ : Aside0 (gb222 ≠ gb207):=⟨h8_⟩
             have n9_ : Aside0 (gb208 ≠ gb222):=⟨h9_⟩
             have n10_ : Aside0 (gb222 ≠ gb208):=⟨h10_⟩
             have n11_ : Aside0 (gb209 ≠ gb222):=⟨h11_⟩
             have n12_ : Aside0 (gb222 ≠ gb209):=⟨h12_⟩
             have n13_ : Aside0 (gb223 ≠ gb222):=⟨h13_⟩
             have n14_ : Aside0 (gb222 ≠ gb223):=⟨h14_⟩
             have n15_ : Aside0 (w.heap.size ≤ gb223):=⟨h15_⟩
             have n16_ : Aside0 (w.heap.size ≤ gb223):=⟨h16_⟩
             have n17_ : Aside0 (gb207 ≠ gb223):=⟨h17_⟩
             have n18_ : Aside0 (gb223 ≠ gb207):=⟨h18_⟩
             have n19_ : Aside0 (gb208 ≠ gb223):=⟨h19_⟩
             have n20_ : Aside0 (gb223 ≠ gb208):=⟨h20_⟩
             have n21_ : Aside0 (gb209 ≠ gb223):=⟨h21_⟩
             have n22_ : Aside0 (gb223 ≠ gb209):=⟨h22_⟩
             have n23_ : Aside0 (Below w.heap.size w w14):=⟨h23_⟩
             clear BK207
             clear BK208
             clear BK209
             clear HB
             clear h0_ h1_ h2_ h3_ h4_ h5_ h6_ h7_ h8_ h9_ h10_ h11_ h12_ h13_ h14_ h15_ h16_ h17_ h18_ h19_ h20_ h21_ h22_ h23_
             have BK207:=n0_
             have BK208:=n1_
             have BK209:=n2_
             have BK222:=n3_
             have BK223:=n4_
             have GW222:=n5_
             have GE222:=n6_
             have NB207_222:=n7_
             have NB222_207:=n8_
             have NB208_222:=n9_
             have NB222_208:=n10_
             have NB209_222:=n11_
             have NB222_209:=n12_
             have NB223_222:=n13_
             have NB222_223:=n14_
             have GW223:=n15_
             have GE223:=n16_
             have NB207_223:=n17_
             have NB223_207:=n18_
             have NB208_223:=n19_
             have NB223_208:=n20_
             have NB209_223:=n21_
             have NB223_209:=n22_
             have HB:=n23_
             clear n0_ n1_ n2_ n3_ n4_ n5_ n6_ n7_ n8_ n9_ n10_ n11_ n12_ n13_ n14_ n15_ n16_ n17_ n18_ n19_ n20_ n21_ n22_ n23_
             have hHeld : w14.cell? ⟨gb207,0,none⟩ = some (.int .i64 a0_0)∧w14.cell? ⟨gb207,1,none⟩ = some (.int .i64 a0_1)∧w14.cell? ⟨gb207,2,none⟩ = some (.int .i64 a0_2)∧w14.cell? ⟨gb207,3,none⟩ = some (.int .i64 a0_3)∧w14.cell? ⟨gb208,0,none⟩ = some (.int .i64 a1_0)∧w14.cell? ⟨gb208,1,none⟩ = some (.int .i64 a1_1)∧w14.cell? ⟨gb208,2,none⟩ = some (.int .i64 a1_2)∧w14.cell? ⟨gb208,3,none⟩ = some (.int .i64 a1_3):=hS_
             refine norm_ (a':=?_) ?_ ?_
             rotate_left
             ·simp only [putAll,Act.put,sA,sZ,sS]
              rfl
             refine one_ (i:=2) (N:=some 10) #[tt,tt,tt,ff,tt,ff,tt,tt,ff,ff] rfl rfl (one_of HT_.out (by kernel_rfl)) (by decide) (fun K hK => ?_)
             refine goes_ Try.func40 (by kernel_rfl) rfl #[.agg #[.int .i64 a0_0,.int .i64 a0_1,.int .i64 a0_2,.int .i64 a0_3],.agg #[.int .i64 a1_0,.int .i64 a1_1,.int .i64 a1_2,.int .i64 a1_3]] (by rfl) rfl rfl (by (try simp only [List.map_toArray,List.map_cons,List.map_nil]);first|done|rfl|(simp only [List.length_drop,List.length_take];rfl)) ?_
             with_reducible refine (key_Union.calls a0_0 a0_1 a0_2 a0_3 a1_0 a1_1 a1_2 a1_3 t210 t211 t212 t213 _ A3.out).mono ?_
             rintro e w15 ⟨rfl,hb⟩
             refine ⟨_,rfl,?_⟩
             have n0_:=Ak (kB (g:=gb207) (o:=.cells #[.int .i64 a0_0,.int .i64 a0_1,.int .i64 a0_2,.int .i64 a0_3] 35 (0,0)) (by (with_reducible repeat (first|refine kN ?_ _|refine kD ?_|refine kA ?_ _));exact BK207.out) hb)
             have n1_:=Ak (kB (g:=gb208) (o:=.cells #[.int .i64 a1_0,.int .i64 a1_1,.int .i64 a1_2,.int .i64 a1_3] 35 (0,0)) (by (with_reducible repeat (first|refine kN ?_ _|refine kD ?_|refine kA ?_ _));exact BK208.out) hb)
             have n2_:=Ak (kB (g:=gb209) (o:=.cells #[.int .u64 0,.int .u64 0,.int .u64 0,.int .u64 0] 79 (0,0)) (by (with_reducible repeat (first|refine kN ?_ _|refine kD ?_|refine kA ?_ _));exact BK209.out) hb)
             have n3_:=Ak (kB (g:=gb222) (o:=.cells #[.int .u64 0,.int .u64 0,.int .u64 0,.int .u64 0] 79 (0,0)) (by (with_reducible repeat (first|refine kN ?_ _|refine kD ?_|refine kA ?_ _));exact BK222.out) hb)
             have n4_:=Ak (kB (g:=gb223) (o:=.cells #[.int .u64 0,.int .u64 0,.int .u64 0,.int .u64 0] 79 (0,0)) (by (with_reducible repeat (first|refine kN ?_ _|refine kD ?_|refine kA ?_ _));exact BK223.out) hb)
             have n5_:=Ak (below_step (by repeat (first|(with_reducible first|exact HB.out|apply bA|apply bN|apply bD|refine bS ?_ GE207.out|refine bS ?_ GE208.out|refine bS ?_ GE209.out|refine bS ?_ GE222.out|refine bS ?_ GE223.out)|exact HB.out)) hb)
             clear BK207
             clear BK208
             clear BK209
             clear BK222
             clear BK223
             clear HB
             have BK207:=n0_
             have BK208:=n1_
             have BK209:=n2_
             have BK222:=n3_
             have BK223:=n4_
             have HB:=n5_
             clear n0_ n1_ n2_ n3_ n4_ n5_
             (try clear hb)
             (try clear hb2)
             (try clear hk)
             (try clear hi)
             refine hK.out _ _ ⟨(kC BK207.out 0).trans rfl,(kC BK207.out 1).trans rfl,(kC BK207.out 2).trans rfl,(kC BK207.out 3).trans rfl,(kC BK208.out 0).trans rfl,(kC BK208.out 1).trans rfl,(kC BK208.out 2).trans rfl,(kC BK208.out 3).trans rfl⟩ (fun hHeld => ?_)
             clear hK K
             refine norm_ (a':=?_) ?_ ?_
             rotate_left
             ·show Act.put _ (some 10) _ = _
              simp only [Act.put,sA,sZ,sS,i64_w,i32_w]
              rfl
             exact norm_ (by first|(simp only [putAll,Act.put,sA,sZ,sS];done)|(simp only [putAll,Act.put,sA,sZ,sS];rfl)) (hJ2_6_7 (gb222,gb223) _ ⟨hHeld,(by (with_reducible repeat (first|refine kN ?_ _|refine kD ?_|refine kA ?_ _));exact BK207.out),(by (with_reducible repeat (first|refine kN ?_ _|refine kD ?_|refine kA ?_ _));exact BK208.out),(by (with_reducible repeat (first|refine kN ?_ _|refine kD ?_|refine kA ?_ _));exact BK209.out),(by (with_reducible repeat (first|refine kN ?_ _|refine kD ?_|refine kA ?_ _));exact BK222.out),(by (with_reducible repeat (first|refine kN ?_ _|refine kD ?_|refine kA ?_ _));exact BK223.out),GW222.out,GE222.out,NB207_222.out,NB222_207.out,NB208_222.out,NB222_208.out,NB209_222.out,NB222_209.out,NB223_222.out,NB222_223.out,GW223.out,GE223.out,NB207_223.out,NB223_207.out,NB208_223.out,NB223_208.out,NB209_223.out,NB223_209.out,(by repeat (first|(with_reducible first|exact HB.out|apply bA|apply bN|apply bD|refine bS ?_ GE207.out|refine bS ?_ GE208.out|refine bS ?_ GE209.out|refine bS ?_ GE222.out|refine bS ?_ GE223.out)|exact HB.out))⟩)
           ·skip
            rintro gb223 w14 ⟨hS_,h0_,h1_,h2_,h3_,h4_,h5_,h6_,h7_,h8_,h9_,h10_,h11_,h12_⟩
            have n0_ : Aside0 (w14.heap[gb207]? = some (.cells #[.int .i64 a0_0,.int .i64 a0_1,.int .i64 a0_2,.int .i64 a0_3] 35 (0,0))):=⟨h0_⟩
            have n1_ : Aside0 (w14.heap[gb208]? = some (.cells #[.int .i64 a1_0,.int .i64 a1_1,.int .i64 a1_2,.int .i64 a1_3] 35 (0,0))):=⟨h1_⟩
            have n2_ : Aside0 (w14.heap[gb209]? = some (.cells #[.int .u64 0,.int .u64 0,.int .u64 0,.int .u64 0] 79 (0,0))):=⟨h2_⟩
            have n3_ : Aside0 (w14.heap[gb223]? = some (.cells #[.int .u64 0,.int .u64 0,.int .u64 0,.int .u64 0] 79 (0,0))):=⟨h3_⟩
            have n4_ : Aside0 (w.heap.size ≤ gb223):=⟨h4_⟩
            have n5_ : Aside0 (w.heap.size ≤ gb223):=⟨h5_⟩
            have n6_ : Aside0 (gb207 ≠ gb223):=⟨h6_⟩
            have n7_ : Aside0 (gb223 ≠ gb207):=⟨h7_⟩
            have n8_ : Aside0 (gb208 ≠ gb223):=⟨h8_⟩
            have n9_ : Aside0 (gb223 ≠ gb208):=⟨h9_⟩
            have n10_ : Aside0 (gb209 ≠ gb223):=⟨h10_⟩
            have n11_ : Aside0 (gb223 ≠ gb209):=⟨h11_⟩
            have n12_ : Aside0 (Below w.heap.size w w14):=⟨h12_⟩
            clear BK207
            clear BK208
            clear BK209
            clear HB
            clear h0_ h1_ h2_ h3_ h4_ h5_ h6_ h7_ h8_ h9_ h10_ h11_ h12_
            have BK207:=n0_
            have BK208:=n1_
            have BK209:=n2_
            have BK223:=n3_
            have GW223:=n4_
            have GE223:=n5_
            have NB207_223:=n6_
            have NB223_207:=n7_
            have NB208_223:=n8_
            have NB223_208:=n9_
            have NB209_223:=n10_
            have NB223_209:=n11_
            have HB:=n12_
            clear n0_ n1_ n2_ n3_ n4_ n5_ n6_ n7_ n8_ n9_ n10_ n11_ n12_
            have hHeld : w14.cell? ⟨gb207,0,none⟩ = some (.int .i64 a0_0)∧w14.cell? ⟨gb207,1,none⟩ = some (.int .i64 a0_1)∧w14.cell? ⟨gb207,2,none⟩ = some (.int .i64 a0_2)∧w14.cell? ⟨gb207,3,none⟩ = some (.int .i64 a0_3)∧w14.cell? ⟨gb208,0,none⟩ = some (.int .i64 a1_0)∧w14.cell? ⟨gb208,1,none⟩ = some (.int .i64 a1_1)∧w14.cell? ⟨gb208,2,none⟩ = some (.int .i64 a1_2)∧w14.cell? ⟨gb208,3,none⟩ = some (.int .i64 a1_3):=hS_
            refine norm_ (a':=?_) ?_ ?_
            rotate_left
            ·simp only [putAll,Act.put,sA,sZ,sS]
             rfl
            refine two_ (i:=3) (j:=6) (Ni:=some 11) (Nj:=some 5) #[tt,tt,tt,tt,tt,ff,ff,tt,ff,ff] #[tt,tt,tt,ff,tt,ff,tt,tt,ff,ff] rfl rfl rfl rfl (two_of HT_.out (by kernel_rfl)) (by decide) (by decide) (fun K hK => ?_) (fun K hK => ?_)
            ·skip
             refine goes_ Try.func64 (by kernel_rfl) rfl #[.agg #[.int .i64 t210,.int .i64 t211,.int .i64 t212,.int .i64 t213]] (by rfl) rfl rfl (by (try simp only [List.map_toArray,List.map_cons,List.map_nil]);first|done|rfl|(simp only [List.length_drop,List.length_take];rfl)) ?_
             with_reducible refine (key_of.calls t210 t211 t212 t213 t214 t215 t216 t217 _ A4.out).mono ?_
             rintro e w15 ⟨rfl,hb⟩
             refine ⟨_,rfl,?_⟩
             have n0_:=Ak (kB (g:=gb207) (o:=.cells #[.int .i64 a0_0,.int .i64 a0_1,.int .i64 a0_2,.int .i64 a0_3] 35 (0,0)) (by (with_reducible repeat (first|refine kN ?_ _|refine kD ?_|refine kA ?_ _));exact BK207.out) hb)
             have n1_:=Ak (kB (g:=gb208) (o:=.cells #[.int .i64 a1_0,.int .i64 a1_1,.int .i64 a1_2,.int .i64 a1_3] 35 (0,0)) (by (with_reducible repeat (first|refine kN ?_ _|refine kD ?_|refine kA ?_ _));exact BK208.out) hb)
             have n2_:=Ak (kB (g:=gb209) (o:=.cells #[.int .u64 0,.int .u64 0,.int .u64 0,.int .u64 0] 79 (0,0)) (by (with_reducible repeat (first|refine kN ?_ _|refine kD ?_|refine kA ?_ _));exact BK209.out) hb)
             have n3_:=Ak (kB (g:=gb223) (o:=.cells #[.int .u64 0,.int .u64 0,.int .u64 0,.int .u64 0] 79 (0,0)) (by (with_reducible repeat (first|refine kN ?_ _|refine kD ?_|refine kA ?_ _));exact BK223.out) hb)
             have n4_:=Ak (below_step (by repeat (first|(with_reducible first|exact HB.out|apply bA|apply bN|apply bD|refine bS ?_ GE207.out|refine bS ?_ GE208.out|refine bS ?_ GE209.out|refine bS ?_ GE223.out)|exact HB.out)) hb)
             clear BK207
             clear BK208
             clear BK209
             clear BK223
             clear HB
             have BK207:=n0_
             have BK208:=n1_
             have BK209:=n2_
             have BK223:=n3_
             have HB:=n4_
             clear n0_ n1_ n2_ n3_ n4_
             (try clear hb)
             (try clear hb2)
             (try clear hk)
             (try clear hi)
             refine hK.out _ _ ⟨(kC BK207.out 0).trans rfl,(kC BK207.out 1).trans rfl,(kC BK207.out 2).trans rfl,(kC BK207.out 3).trans rfl,(kC BK208.out 0).trans rfl,(kC BK208.out 1).trans rfl,(kC BK208.out 2).trans rfl,(kC BK208.out 3).trans rfl⟩ (fun hHeld => ?_)
             clear hK K
             refine norm_ (a':=?_) ?_ ?_
             rotate_left
             ·show Act.put _ (some 11) _ = _
              simp only [Act.put,sA,sZ,sS,i64_w,i32_w]
              rfl
             exact norm_ (by first|(simp only [putAll,Act.put,sA,sZ,sS];done)|(simp only [putAll,Act.put,sA,sZ,sS];rfl)) (hJ2_3_7 (gb223) _ ⟨hHeld,(by (with_reducible repeat (first|refine kN ?_ _|refine kD ?_|refine kA ?_ _));exact BK207.out),(by (with_reducible repeat (first|refine kN ?_ _|refine kD ?_|refine kA ?_ _));exact BK208.out),(by (with_reducible repeat (first|refine kN ?_ _|refine kD ?_|refine kA ?_ _));exact BK209.out),(by (with_reducible repeat (first|refine kN ?_ _|refine kD ?_|refine kA ?_ _));exact BK223.out),GW223.out,GE223.out,NB207_223.out,NB223_207.out,NB208_223.out,NB223_208.out,NB209_223.out,NB223_209.out,(by repeat (first|(with_reducible first|exact HB.out|apply bA|apply bN|apply bD|refine bS ?_ GE207.out|refine bS ?_ GE208.out|refine bS ?_ GE209.out|refine bS ?_ GE223.out)|exact HB.out))⟩)
            ·skip
             refine box_step ?hg (N:=5) ?hd (cs:=#[.int .u64 0,.int .u64 0,.int .u64 0,.int .u64 0]) (t:=79) ?hr ?_;(case hd => rfl);(case hg => rfl);(case hr => first|(go_simp;done)|(go_simp;rfl))
             intro gb222 hg w15 hbox hb
             have n0_:=Ak (kB (g:=gb207) (o:=.cells #[.int .i64 a0_0,.int .i64 a0_1,.int .i64 a0_2,.int .i64 a0_3] 35 (0,0)) (by (with_reducible repeat (first|refine kN ?_ _|refine kD ?_|refine kA ?_ _));exact BK207.out) hb)
             have n1_:=Ak (kB (g:=gb208) (o:=.cells #[.int .i64 a1_0,.int .i64 a1_1,.int .i64 a1_2,.int .i64 a1_3] 35 (0,0)) (by (with_reducible repeat (first|refine kN ?_ _|refine kD ?_|refine kA ?_ _));exact BK208.out) hb)
             have n2_:=Ak (kB (g:=gb209) (o:=.cells #[.int .u64 0,.int .u64 0,.int .u64 0,.int .u64 0] 79 (0,0)) (by (with_reducible repeat (first|refine kN ?_ _|refine kD ?_|refine kA ?_ _));exact BK209.out) hb)
             have n3_:=Ak (kB (g:=gb223) (o:=.cells #[.int .u64 0,.int .u64 0,.int .u64 0,.int .u64 0] 79 (0,0)) (by (with_reducible repeat (first|refine kN ?_ _|refine kD ?_|refine kA ?_ _));exact BK223.out) hb)
             have n4_:=Ak (below_step (by repeat (first|(with_reducible first|exact HB.out|apply bA|apply bN|apply bD|refine bS ?_ GE207.out|refine bS ?_ GE208.out|refine bS ?_ GE209.out|refine bS ?_ GE223.out)|exact HB.out)) hb)
             have n5_:=Ak (hbox)
             have n6_:=Ak ((by rw [hg];exact (below_size (by repeat (first|(with_reducible first|exact HB.out|apply bA|apply bN|apply bD|refine bS ?_ GE207.out|refine bS ?_ GE208.out|refine bS ?_ GE209.out|refine bS ?_ GE223.out)|exact HB.out))) : w.heap.size ≤ gb222))
             have n7_:=Ak ((by rw [hg];exact (below_size (by repeat (first|(with_reducible first|exact HB.out|apply bA|apply bN|apply bD|refine bS ?_ GE207.out|refine bS ?_ GE208.out|refine bS ?_ GE209.out|refine bS ?_ GE223.out)|exact HB.out))) : w.heap.size ≤ gb222))
             have n8_:=Ak ((by rw [hg];exact Nat.ne_of_lt (blk_lt (g:=gb207) (o:=.cells #[.int .i64 a0_0,.int .i64 a0_1,.int .i64 a0_2,.int .i64 a0_3] 35 (0,0)) (by (with_reducible repeat (first|refine kN ?_ _|refine kD ?_|refine kA ?_ _));exact BK207.out)) : gb207 ≠ gb222))
             have n9_:=Ak ((by rw [hg];exact Nat.ne_of_gt (blk_lt (g:=gb207) (o:=.cells #[.int .i64 a0_0,.int .i64 a0_1,.int .i64 a0_2,.int .i64 a0_3] 35 (0,0)) (by (with_reducible repeat (first|refine kN ?_ _|refine kD ?_|refine kA ?_ _));exact BK207.out)) : gb222 ≠ gb207))
             have n10_:=Ak ((by rw [hg];exact Nat.ne_of_lt (blk_lt (g:=gb208) (o:=.cells #[.int .i64 a1_0,.int .i64 a1_1,.int .i64 a1_2,.int .i64 a1_3] 35 (0,0)) (by (with_reducible repeat (first|refine kN ?_ _|refine kD ?_|refine kA ?_ _));exact BK208.out)) : gb208 ≠ gb222))
             have n11_:=Ak ((by rw [hg];exact Nat.ne_of_gt (blk_lt (g:=gb208) (o:=.cells #[.int .i64 a1_0,.int .i64 a1_1,.int .i64 a1_2,.int .i64 a1_3] 35 (0,0)) (by (with_reducible repeat (first|refine kN ?_ _|refine kD ?_|refine kA ?_ _));exact BK208.out)) : gb222 ≠ gb208))
             have n12_:=Ak ((by rw [hg];exact Nat.ne_of_lt (blk_lt (g:=gb209) (o:=.cells #[.int .u64 0,.int .u64 0,.int .u64 0,.int .u64 0] 79 (0,0)) (by (with_reducible repeat (first|refine kN ?_ _|refine kD ?_|refine kA ?_ _));exact BK209.out)) : gb209 ≠ gb222))
             have n13_:=Ak ((by rw [hg];exact Nat.ne_of_gt (blk_lt (g:=gb209) (o:=.cells #[.int .u64 0,.int .u64 0,.int .u64 0,.int .u64 0] 79 (0,0)) (by (with_reducible repeat (first|refine kN ?_ _|refine kD ?_|refine kA ?_ _));exact BK209.out)) : gb222 ≠ gb209))
             have n14_:=Ak ((by rw [hg];exact Nat.ne_of_lt (blk_lt (g:=gb223) (o:=.cells #[.int .u64 0,.int .u64 0,.int .u64 0,.int .u64 0] 79 (0,0)) (by (with_reducible repeat (first|refine kN ?_ _|refine kD ?_|refine kA ?_ _));exact BK223.out)) : gb223 ≠ gb222))
             have n15_:=Ak ((by rw [hg];exact Nat.ne_of_gt (blk_lt (g:=gb223) (o:=.cells #[.int .u64 0,.int .u64 0,.int .u64 0,.int .u64 0] 79 (0,0)) (by (with_reducible repeat (first|refine kN ?_ _|refine kD ?_|refine kA ?_ _));exact BK223.out)) : gb222 ≠ gb223))
             clear BK207
             clear BK208
             clear BK209
             clear BK223
             clear HB
             have BK207:=n0_
             have BK208:=n1_
             have BK209:=n2_
             have BK223:=n3_
             have HB:=n4_
             have BK222:=n5_
             have GW222:=n6_
             have GE222:=n7_
             have NB207_222:=n8_
             have NB222_207:=n9_
             have NB208_222:=n10_
             have NB222_208:=n11_
             have NB209_222:=n12_
             have NB222_209:=n13_
             have NB223_222:=n14_
             have NB222_223:=n15_
             clear n0_ n1_ n2_ n3_ n4_ n5_ n6_ n7_ n8_ n9_ n10_ n11_ n12_ n13_ n14_ n15_
             clear hb hbox hg
             refine hK.out _ _ ⟨(kC BK207.out 0).trans rfl,(kC BK207.out 1).trans rfl,(kC BK207.out 2).trans rfl,(kC BK207.out 3).trans rfl,(kC BK208.out 0).trans rfl,(kC BK208.out 1).trans rfl,(kC BK208.out 2).trans rfl,(kC BK208.out 3).trans rfl⟩ (fun hHeld => ?_)
             clear hK K
             refine norm_ (a':=?_) ?_ ?_
             rotate_left
             ·show Act.put _ (some 5) _ = _
              simp only [Act.put,sA,sZ,sS,i64_w,i32_w]
              rfl
             exact norm_ (by first|(simp only [putAll,Act.put,sA,sZ,sS];done)|(simp only [putAll,Act.put,sA,sZ,sS];rfl)) (hJ2_6_7 (gb222,gb223) _ ⟨hHeld,(by (with_reducible repeat (first|refine kN ?_ _|refine kD ?_|refine kA ?_ _));exact BK207.out),(by (with_reducible repeat (first|refine kN ?_ _|refine kD ?_|refine kA ?_ _));exact BK208.out),(by (with_reducible repeat (first|refine kN ?_ _|refine kD ?_|refine kA ?_ _));exact BK209.out),(by (with_reducible repeat (first|refine kN ?_ _|refine kD ?_|refine kA ?_ _));exact BK222.out),(by (with_reducible repeat (first|refine kN ?_ _|refine kD ?_|refine kA ?_ _));exact BK223.out),GW222.out,GE222.out,NB207_222.out,NB222_207.out,NB208_222.out,NB222_208.out,NB209_222.out,NB222_209.out,NB223_222.out,NB222_223.out,GW223.out,GE223.out,NB207_223.out,NB223_207.out,NB208_223.out,NB223_208.out,NB209_223.out,NB223_209.out,(by repeat (first|(with_reducible first|exact HB.out|apply bA|apply bN|apply bD|refine bS ?_ GE207.out|refine bS ?_ GE208.out|refine bS ?_ GE209.out|refine bS ?_ GE223.out|refine bS ?_ GE222.out)|exact HB.out))⟩)
          ·skip
           rintro gb222 w14 ⟨hS_,h0_,h1_,h2_,h3_,h4_,h5_,h6_,h7_,h8_,h9_,h10_,h11_,h12_⟩
           have n0_ : Aside0 (w14.heap[gb207]? = some (.cells #[.int .i64 a0_0,.int .i64 a0_1,.int .i64 a0_2,.int .i64 a0_3] 35 (0,0))):=⟨h0_⟩
           have n1_ : Aside0 (w14.heap[gb208]? = some (.cells #[.int .i64 a1_0,.int .i64 a1_1,.int .i64 a1_2,.int .i64 a1_3] 35 (0,0))):=⟨h1_⟩
           have n2_ : Aside0 (w14.heap[gb209]? = some (.cells #[.int .u64 0,.int .u64 0,.int .u64 0,.int .u64 0] 79 (0,0))):=⟨h2_⟩
           have n3_ : Aside0 (w14.heap[gb222]? = some (.cells #[.int .u64 0,.int .u64 0,.int .u64 0,.int .u64 0] 79 (0,0))):=⟨h3_⟩
           have n4_ : Aside0 (w.heap.size ≤ gb222):=⟨h4_⟩
           have n5_ : Aside0 (w.heap.size ≤ gb222):=⟨h5_⟩
           have n6_ : Aside0 (gb207 ≠ gb222):=⟨h6_⟩
           have n7_ : Aside0 (gb222 ≠ gb207):=⟨h7_⟩
           have n8_ : Aside0 (gb208 ≠ gb222):=⟨h8_⟩
           have n9_ : Aside0 (gb222 ≠ gb208):=⟨h9_⟩
           have n10_ : Aside0 (gb209 ≠ gb222):=⟨h10_⟩
           have n11_ : Aside0 (gb222 ≠ gb209):=⟨h11_⟩
           have n12_ : Aside0 (Below w.heap.size w w14):=⟨h12_⟩
           clear BK207
           clear BK208
           clear BK209
           clear HB
           clear h0_ h1_ h2_ h3_ h4_ h5_ h6_ h7_ h8_ h9_ h10_ h11_ h12_
           have BK207:=n0_
           have BK208:=n1_
           have BK209:=n2_
           have BK222:=n3_
           have GW222:=n4_
           have GE222:=n5_
           have NB207_222:=n6_
           have NB222_207:=n7_
           have NB208_222:=n8_
           have NB222_208:=n9_
           have NB209_222:=n10_
           have NB222_209:=n11_
           have HB:=n12_
           clear n0_ n1_ n2_ n3_ n4_ n5_ n6_ n7_ n8_ n9_ n10_ n11_ n12_
           have hHeld : w14.cell? ⟨gb207,0,none⟩ = some (.int .i64 a0_0)∧w14.cell? ⟨gb207,1,none⟩ = some (.int .i64 a0_1)∧w14.cell? ⟨gb207,2,none⟩ = some (.int .i64 a0_2)∧w14.cell? ⟨gb207,3,none⟩ = some (.int .i64 a0_3)∧w14.cell? ⟨gb208,0,none⟩ = some (.int .i64 a1_0)∧w14.cell? ⟨gb208,1,none⟩ = some (.int .i64 a1_1)∧w14.cell? ⟨gb208,2,none⟩ = some (.int .i64 a1_2)∧w14.cell? ⟨gb208,3,none⟩ = some (.int .i64 a1_3):=hS_
           refine norm_ (a':=?_) ?_ ?_
           rotate_left
           ·simp only [putAll,Act.put,sA,sZ,sS]
            rfl
           refine two_ (i:=3) (j:=7) (Ni:=some 11) (Nj:=some 6) #[tt,tt,tt,tt,tt,ff,tt,ff,ff,ff] #[tt,tt,tt,ff,tt,ff,tt,tt,ff,ff] rfl rfl rfl rfl (two_of HT_.out (by kernel_rfl)) (by decide) (by decide) (fun K hK => ?_) (fun K hK => ?_)
           ·skip
            refine goes_ Try.func64 (by kernel_rfl) rfl #[.agg #[.int .i64 t210,.int .i64 t211,.int .i64 t212,.int .i64 t213]] (by rfl) rfl rfl (by (try simp only [List.map_toArray,List.map_cons,List.map_nil]);first|done|rfl|(simp only [List.length_drop,List.length_take];rfl)) ?_
            with_reducible refine (key_of.calls t210 t211 t212 t213 t214 t215 t216 t217 _ A4.out).mono ?_
            rintro e w15 ⟨rfl,hb⟩
            refine ⟨_,rfl,?_⟩
            have n0_:=Ak (kB (g:=gb207) (o:=.cells #[.int .i64 a0_0,.int .i64 a0_1,.int .i64 a0_2,.int .i64 a0_3] 35 (0,0)) (by (with_reducible repeat (first|refine kN ?_ _|refine kD ?_|refine kA ?_ _));exact BK207.out) hb)
            have n1_:=Ak (kB (g:=gb208) (o:=.cells #[.int .i64 a1_0,.int .i64 a1_1,.int .i64 a1_2,.int .i64 a1_3] 35 (0,0)) (by (with_reducible repeat (first|refine kN ?_ _|refine kD ?_|refine kA ?_ _));exact BK208.out) hb)
            have n2_:=Ak (kB (g:=gb209) (o:=.cells #[.int .u64 0,.int .u64 0,.int .u64 0,.int .u64 0] 79 (0,0)) (by (with_reducible repeat (first|refine kN ?_ _|refine kD ?_|refine kA ?_ _));exact BK209.out) hb)
            have n3_:=Ak (kB (g:=gb222) (o:=.cells #[.int .u64 0,.int .u64 0,.int .u64 0,.int .u64 0] 79 (0,0)) (by (with_reducible repeat (first|refine kN ?_ _|refine kD ?_|refine kA ?_ _));exact BK222.out) hb)
            have n4_:=Ak (below_step (by repeat (first|(with_reducible first|exact HB.out|apply bA|apply bN|apply bD|refine bS ?_ GE207.out|refine bS ?_ GE208.out|refine bS ?_ GE209.out|refine bS ?_ GE222.out)|exact HB.out)) hb)
            clear BK207
            clear BK208
            clear BK209
            clear BK222
            clear HB
            have BK207:=n0_
            have BK208:=n1_
            have BK209:=n2_
            have BK222:=n3_
            have HB:=n4_
            clear n0_ n1_ n2_ n3_ n4_
            (try clear hb)
            (try clear hb2)
            (try clear hk)
            (try clear hi)
            refine hK.out _ _ ⟨(kC BK207.out 0).trans rfl,(kC BK207.out 1).trans rfl,(kC BK207.out 2).trans rfl,(kC BK207.out 3).trans rfl,(kC BK208.out 0).trans rfl,(kC BK208.out 1).trans rfl,(kC BK208.out 2).trans rfl,(kC BK208.out 3).trans rfl⟩ (fun hHeld => ?_)
            clear hK K
            refine norm_ (a':=?_) ?_ ?_
            rotate_left
            ·show Act.put _ (some 11) _ = _
             simp only [Act.put,sA,sZ,sS,i64_w,i32_w]
             rfl
            exact norm_ (by first|(simp only [putAll,Act.put,sA,sZ,sS];done)|(simp only [putAll,Act.put,sA,sZ,sS];rfl)) (hJ2_3_6 (gb222) _ ⟨hHeld,(by (with_reducible repeat (first|refine kN ?_ _|refine kD ?_|refine kA ?_ _));exact BK207.out),(by (with_reducible repeat (first|refine kN ?_ _|refine kD ?_|refine kA ?_ _));exact BK208.out),(by (with_reducible repeat (first|refine kN ?_ _|refine kD ?_|refine kA ?_ _));exact BK209.out),(by (with_reducible repeat (first|refine kN ?_ _|refine kD ?_|refine kA ?_ _));exact BK222.out),GW222.out,GE222.out,NB207_222.out,NB222_207.out,NB208_222.out,NB222_208.out,NB209_222.out,NB222_209.out,(by repeat (first|(with_reducible first|exact HB.out|apply bA|apply bN|apply bD|refine bS ?_ GE207.out|refine bS ?_ GE208.out|refine bS ?_ GE209.out|refine bS ?_ GE222.out)|exact HB.out))⟩)
           ·skip
            refine box_step ?hg (N:=6) ?hd (cs:=#[.int .u64 0,.int .u64 0,.int .u64 0,.int .u64 0]) (t:=79) ?hr ?_;(case hd => rfl);(case hg => rfl);(case hr => first|(go_simp;done)|(go_simp;rfl))
            intro gb223 hg w15 hbox hb
            have n0_:=Ak (kB (g:=gb207) (o:=.cells #[.int .i64 a0_0,.int .i64 a0_1,.int .i64 a0_2,.int .i64 a0_3] 35 (0,0)) (by (with_reducible repeat (first|refine kN ?_ _|refine kD ?_|refine kA ?_ _));exact BK207.out) hb)
            have n1_:=Ak (kB (g:=gb208) (o:=.cells #[.int .i64 a1_0,.int .i64 a1_1,.int .i64 a1_2,.int .i64 a1_3] 35 (0,0)) (by (with_reducible repeat (first|refine kN ?_ _|refine kD ?_|refine kA ?_ _));exact BK208.out) hb)
            have n2_:=Ak (kB (g:=gb209) (o:=.cells #[.int .u64 0,.int .u64 0,.int .u64 0,.int .u64 0] 79 (0,0)) (by (with_reducible repeat (first|refine kN ?_ _|refine kD ?_|refine kA ?_ _));exact BK209.out) hb)
            have n3_:=Ak (kB (g:=gb222) (o:=.cells #[.int .u64 0,.int .u64 0,.int .u64 0,.int .u64 0] 79 (0,0)) (by (with_reducible repeat (first|refine kN ?_ _|refine kD ?_|refine kA ?_ _));exact BK222.out) hb)
            have n4_:=Ak (below_step (by repeat (first|(with_reducible first|exact HB.out|apply bA|apply bN|apply bD|refine bS ?_ GE207.out|refine bS ?_ GE208.out|refine bS ?_ GE209.out|refine bS ?_ GE222.out)|exact HB.out)) hb)
            have n5_:=Ak (hbox)
            have n6_:=Ak ((by rw [hg];exact (below_size (by repeat (first|(with_reducible first|exact HB.out|apply bA|apply bN|apply bD|refine bS ?_ GE207.out|refine bS ?_ GE208.out|refine bS ?_ GE209.out|refine bS ?_ GE222.out)|exact HB.out))) : w.heap.size ≤ gb223))
            have n7_:=Ak ((by rw [hg];exact (below_size (by repeat (first|(with_reducible first|exact HB.out|apply bA|apply bN|apply bD|refine bS ?_ GE207.out|refine bS ?_ GE208.out|refine bS ?_ GE209.out|refine bS ?_ GE222.out)|exact HB.out))) : w.heap.size ≤ gb223))
            have n8_:=Ak ((by rw [hg];exact Nat.ne_of_lt (blk_lt (g:=gb207) (o:=.cells #[.int .i64 a0_0,.int .i64 a0_1,.int .i64 a0_2,.int .i64 a0_3] 35 (0,0)) (by (with_reducible repeat (first|refine kN ?_ _|refine kD ?_|refine kA ?_ _));exact BK207.out)) : gb207 ≠ gb223))
            have n9_:=Ak ((by rw [hg];exact Nat.ne_of_gt (blk_lt (g:=gb207) (o:=.cells #[.int .i64 a0_0,.int .i64 a0_1,.int .i64 a0_2,.int .i64 a0_3] 35 (0,0)) (by (with_reducible repeat (first|refine kN ?_ _|refine kD ?_|refine kA ?_ _));exact BK207.out)) : gb223 ≠ gb207))
            have n10_:=Ak ((by rw [hg];exact Nat.ne_of_lt (blk_lt (g:=gb208) (o:=.cells #[.int .i64 a1_0,.int .i64 a1_1,.int .i64 a1_2,.int .i64 a1_3] 35 (0,0)) (by (with_reducible repeat (first|refine kN ?_ _|refine kD ?_|refine kA ?_ _));exact BK208.out)) : gb208 ≠ gb223))
            have n11_:=Ak ((by rw [hg];exact Nat.ne_of_gt (blk_lt (g:=gb208) (o:=.cells #[.int .i64 a1_0,.int .i64 a1_1,.int .i64 a1_2,.int .i64 a1_3] 35 (0,0)) (by (with_reducible repeat (first|refine kN ?_ _|refine kD ?_|refine kA ?_ _));exact BK208.out)) : gb223 ≠ gb208))
            have n12_:=Ak ((by rw [hg];exact Nat.ne_of_lt (blk_lt (g:=gb209) (o:=.cells #[.int .u64 0,.int .u64 0,.int .u64 0,.int .u64 0] 79 (0,0)) (by (with_reducible repeat (first|refine kN ?_ _|refine kD ?_|refine kA ?_ _));exact BK209.out)) : gb209 ≠ gb223))
            have n13_:=Ak ((by rw [hg];exact Nat.ne_of_gt (blk_lt (g:=gb209) (o:=.cells #[.int .u64 0,.int .u64 0,.int .u64 0,.int .u64 0] 79 (0,0)) (by (with_reducible repeat (first|refine kN ?_ _|refine kD ?_|refine kA ?_ _));exact BK209.out)) : gb223 ≠ gb209))
            have n14_:=Ak ((by rw [hg];exact Nat.ne_of_lt (blk_lt (g:=gb222) (o:=.cells #[.int .u64 0,.int .u64 0,.int .u64 0,.int .u64 0] 79 (0,0)) (by (with_reducible repeat (first|refine kN ?_ _|refine kD ?_|refine kA ?_ _));exact BK222.out)) : gb222 ≠ gb223))
            have n15_:=Ak ((by rw [hg];exact Nat.ne_of_gt (blk_lt (g:=gb222) (o:=.cells #[.int .u64 0,.int .u64 0,.int .u64 0,.int .u64 0] 79 (0,0)) (by (with_reducible repeat (first|refine kN ?_ _|refine kD ?_|refine kA ?_ _));exact BK222.out)) : gb223 ≠ gb222))
            clear BK207
            clear BK208
            clear BK209
            clear BK222
            clear HB
            have BK207:=n0_
            have BK208:=n1_
            have BK209:=n2_
            have BK222:=n3_
            have HB:=n4_
            have BK223:=n5_
            have GW223:=n6_
            have GE223:=n7_
            have NB207_223:=n8_
            have NB223_207:=n9_
            have NB208_223:=n10_
            have NB223_208:=n11_
            have NB209_223:=n12_
            have NB223_209:=n13_
            have NB222_223:=n14_
            have NB223_222:=n15_
            clear n0_ n1_ n2_ n3_ n4_ n5_ n6_ n7_ n8_ n9_ n10_ n11_ n12_ n13_ n14_ n15_
            clear hb hbox hg
            refine hK.out _ _ ⟨(kC BK207.out 0).trans rfl,(kC BK207.out 1).trans rfl,(kC BK207.out 2).trans rfl,(kC BK207.out 3).trans rfl,(kC BK208.out 0).trans rfl,(kC BK208.out 1).trans rfl,(kC BK208.out 2).trans rfl,(kC BK208.out 3).trans rfl⟩ (fun hHeld => ?_)
            clear hK K
            refine norm_ (a':=?_) ?_ ?_
            rotate_left
            ·show Act.put _ (some 6) _ = _
             simp only [Act.put,sA,sZ,sS,i64_w,i32_w]
             rfl
            exact norm_ (by first|(simp only [putAll,Act.put,sA,sZ,sS];done)|(simp only [putAll,Act.put,sA,sZ,sS];rfl)) (hJ2_6_7 (gb222,gb223) _ ⟨hHeld,(by (with_reducible repeat (first|refine kN ?_ _|refine kD ?_|refine kA ?_ _));exact BK207.out),(by (with_reducible repeat (first|refine kN ?_ _|refine kD ?_|refine kA ?_ _));exact BK208.out),(by (with_reducible repeat (first|refine kN ?_ _|refine kD ?_|refine kA ?_ _));exact BK209.out),(by (with_reducible repeat (first|refine kN ?_ _|refine kD ?_|refine kA ?_ _));exact BK222.out),(by (with_reducible repeat (first|refine kN ?_ _|refine kD ?_|refine kA ?_ _));exact BK223.out),GW222.out,GE222.out,NB207_222.out,NB222_207.out,NB208_222.out,NB222_208.out,NB209_222.out,NB222_209.out,NB223_222.out,NB222_223.out,GW223.out,GE223.out,NB207_223.out,NB223_207.out,NB208_223.out,NB223_208.out,NB209_223.out,NB223_209.out,(by repeat (first|(with_reducible first|exact HB.out|apply bA|apply bN|apply bD|refine bS ?_ GE207.out|refine bS ?_ GE208.out|refine bS ?_ GE209.out|refine bS ?_ GE222.out|refine bS ?_ GE223.out)|exact HB.out))⟩)
         ·skip
          rintro _ w14 ⟨hS_,h0_,h1_,h2_,h3_⟩
          have n0_ : Aside0 (w14.heap[gb207]? = some (.cells #[.int .i64 a0_0,.int .i64 a0_1,.int .i64 a0_2,.int .i64 a0_3] 35 (0,0))):=⟨h0_⟩
          have n1_ : Aside0 (w14.heap[gb208]? = some (.cells #[.int .i64 a1_0,.int .i64 a1_1,.int .i64 a1_2,.int .i64 a1_3] 35 (0,0))):=⟨h1_⟩
          have n2_ : Aside0 (w14.heap[gb209]? = some (.cells #[.int .u64 0,.int .u64 0,.int .u64 0,.int .u64 0] 79 (0,0))):=⟨h2_⟩
          have n3_ : Aside0 (Below w.heap.size w w14):=⟨h3_⟩
          clear BK207
          clear BK208
          clear BK209
          clear HB
          clear h0_ h1_ h2_ h3_
          have BK207:=n0_
          have BK208:=n1_
          have BK209:=n2_
          have HB:=n3_
          clear n0_ n1_ n2_ n3_
          have hHeld : w14.cell? ⟨gb207,0,none⟩ = some (.int .i64 a0_0)∧w14.cell? ⟨gb207,1,none⟩ = some (.int .i64 a0_1)∧w14.cell? ⟨gb207,2,none⟩ = some (.int .i64 a0_2)∧w14.cell? ⟨gb207,3,none⟩ = some (.int .i64 a0_3)∧w14.cell? ⟨gb208,0,none⟩ = some (.int .i64 a1_0)∧w14.cell? ⟨gb208,1,none⟩ = some (.int .i64 a1_1)∧w14.cell? ⟨gb208,2,none⟩ = some (.int .i64 a1_2)∧w14.cell? ⟨gb208,3,none⟩ = some (.int .i64 a1_3):=hS_
          refine norm_ (a':=?_) ?_ ?_
          rotate_left
          ·simp only [putAll,Act.put,sA,sZ,sS]
           rfl
          refine three_ (i:=5) (j:=6) (k:=7) (Ni:=some 13) (Nj:=some 5) (Nk:=some 6) #[tt,tt,tt,tt,tt,tt,ff,ff,ff,ff] #[tt,tt,tt,tt,tt,ff,tt,ff,ff,ff] #[tt,tt,tt,tt,tt,ff,ff,tt,ff,ff] rfl rfl rfl rfl rfl rfl (three_of HT_.out (by kernel_rfl)) (by decide) (by decide) (by decide) (fun K hK => ?_) (fun K hK => ?_) (fun K hK => ?_)
          ·skip
           refine goes_ Try.func64 (by kernel_rfl) rfl #[.agg #[.int .i64 a0_0,.int .i64 a0_1,.int .i64 a0_2,.int .i64 a0_3]] (by rfl) rfl rfl (by (try simp only [List.map_toArray,List.map_cons,List.map_nil]);first|done|rfl|(simp only [List.length_drop,List.length_take];rfl)) ?_
           with_reducible refine (key_of.calls a0_0 a0_1 a0_2 a0_3 t218 t219 t220 t221 _ A5.out).mono ?_
           rintro e w15 ⟨rfl,hb⟩
           refine ⟨_,rfl,?_⟩
           have n0_:=Ak (kB (g:=gb207) (o:=.cells #[.int .i64 a0_0,.int .i64 a0_1,.int .i64 a0_2,.int .i64 a0_3] 35 (0,0)) (by (with_reducible repeat (first|refine kN ?_ _|refine kD ?_|refine kA ?_ _));exact BK207.out) hb)
           have n1_:=Ak (kB (g:=gb208) (o:=.cells #[.int .i64 a1_0,.int .i64 a1_1,.int .i64 a1_2,.int .i64 a1_3] 35 (0,0)) (by (with_reducible repeat (first|refine kN ?_ _|refine kD ?_|refine kA ?_ _));exact BK208.out) hb)
           have n2_:=Ak (kB (g:=gb209) (o:=.cells #[.int .u64 0,.int .u64 0,.int .u64 0,.int .u64 0] 79 (0,0)) (by (with_reducible repeat (first|refine kN ?_ _|refine kD ?_|refine kA ?_ _));exact BK209.out) hb)
           have n3_:=Ak (below_step (by repeat (first|(with_reducible first|exact HB.out|apply bA|apply bN|apply bD|refine bS ?_ GE207.out|refine bS ?_ GE208.out|refine bS ?_ GE209.out)|exact HB.out)) hb)
           clear BK207
           clear BK208
           clear BK209
           clear HB
           have BK207:=n0_
           have BK208:=n1_
           have BK209:=n2_
           have HB:=n3_
           clear n0_ n1_ n2_ n3_
           (try clear hb)
           (try clear hb2)
           (try clear hk)
           (try clear hi)
           refine hK.out _ _ ⟨(kC BK207.out 0).trans rfl,(kC BK207.out 1).trans rfl,(kC BK207.out 2).trans rfl,(kC BK207.out 3).trans rfl,(kC BK208.out 0).trans rfl,(kC BK208.out 1).trans rfl,(kC BK208.out 2).trans rfl,(kC BK208.out 3).trans rfl⟩ (fun hHeld => ?_)
           clear hK K
           refine norm_ (a':=?_) ?_ ?_
           rotate_left
           ·show Act.put _ (some 13) _ = _
            simp only [Act.put,sA,sZ,sS,i64_w,i32_w]
            rfl
           exact norm_ (by first|(simp only [putAll,Act.put,sA,sZ,sS];done)|(simp only [putAll,Act.put,sA,sZ,sS];rfl)) (hJ2_3_5 () _ ⟨hHeld,(by (with_reducible repeat (first|refine kN ?_ _|refine kD ?_|refine kA ?_ _));exact BK207.out),(by (with_reducible repeat (first|refine kN ?_ _|refine kD ?_|refine kA ?_ _));exact BK208.out),(by (with_reducible repeat (first|refine kN ?_ _|refine kD ?_|refine kA ?_ _));exact BK209.out),(by repeat (first|(with_reducible first|exact HB.out|apply bA|apply bN|apply bD|refine bS ?_ GE207.out|refine bS ?_ GE208.out|refine bS ?_ GE209.out)|exact HB.out))⟩)
          ·skip
           refine box_step ?hg (N:=5) ?hd (cs:=#[.int .u64 0,.int .u64 0,.int .u64 0,.int .u64 0]) (t:=79) ?hr ?_;(case hd => rfl);(case hg => rfl);(case hr => first|(go_simp;done)|(go_simp;rfl))
           intro gb222 hg w15 hbox hb
           have n0_:=Ak (kB (g:=gb207) (o:=.cells #[.int .i64 a0_0,.int .i64 a0_1,.int .i64 a0_2,.int .i64 a0_3] 35 (0,0)) (by (with_reducible repeat (first|refine kN ?_ _|refine kD ?_|refine kA ?_ _));exact BK207.out) hb)
           have n1_:=Ak (kB (g:=gb208) (o:=.cells #[.int .i64 a1_0,.int .i64 a1_1,.int .i64 a1_2,.int .i64 a1_3] 35 (0,0)) (by (with_reducible repeat (first|refine kN ?_ _|refine kD ?_|refine kA ?_ _));exact BK208.out) hb)
           have n2_:=Ak (kB (g:=gb209) (o:=.cells #[.int .u64 0,.int .u64 0,.int .u64 0,.int .u64 0] 79 (0,0)) (by (with_reducible repeat (first|refine kN ?_ _|refine kD ?_|refine kA ?_ _));exact BK209.out) hb)
           have n3_:=Ak (below_step (by repeat (first|(with_reducible first|exact HB.out|apply bA|apply bN|apply bD|refine bS ?_ GE207.out|refine bS ?_ GE208.out|refine bS ?_ GE209.out)|exact HB.out)) hb)
           have n4_:=Ak (hbox)
           have n5_:=Ak ((by rw [hg];exact (below_size (by repeat (first|(with_reducible first|exact HB.out|apply bA|apply bN|apply bD|refine bS ?_ GE207.out|refine bS ?_ GE208.out|refine bS ?_ GE209.out)|exact HB.out))) : w.heap.size ≤ gb222))
           have n6_:=Ak ((by rw [hg];exact (below_size (by repeat (first|(with_reducible first|exact HB.out|apply bA|apply bN|apply bD|refine bS ?_ GE207.out|refine bS ?_ GE208.out|refine bS ?_ GE209.out)|exact HB.out))) : w.heap.size ≤ gb222))
           have n7_:=Ak ((by rw [hg];exact Nat.ne_of_lt (blk_lt (g:=gb207) (o:=.cells #[.int .i64 a0_0,.int .i64 a0_1,.int .i64 a0_2,.int .i64 a0_3] 35 (0,0)) (by (with_reducible repeat (first|refine kN ?_ _|refine kD ?_|refine kA ?_ _));exact BK207.out)) : gb207 ≠ gb222))
           have n8_:=Ak ((by rw [hg];exact Nat.ne_of_gt (blk_lt (g:=gb207) (o:=.cells #[.int .i64 a0_0,.int .i64 a0_1,.int .i64 a0_2,.int .i64 a0_3] 35 (0,0)) (by (with_reducible repeat (first|refine kN ?_ _|refine kD ?_|refine kA ?_ _));exact BK207.out)) : gb222 ≠ gb207))
           have n9_:=Ak ((by rw [hg];exact Nat.ne_of_lt (blk_lt (g:=gb208) (o:=.cells #[.int .i64 a1_0,.int .i64 a1_1,.int .i64 a1_2,.int .i64 a1_3] 35 (0,0)) (by (with_reducible repeat (first|refine kN ?_ _|refine kD ?_|refine kA ?_ _));exact BK208.out)) : gb208 ≠ gb222))
           have n10_:=Ak ((by rw [hg];exact Nat.ne_of_gt (blk_lt (g:=gb208) (o:=.cells #[.int .i64 a1_0,.int .i64 a1_1,.int .i64 a1_2,.int .i64 a1_3] 35 (0,0)) (by (with_reducible repeat (first|refine kN ?_ _|refine kD ?_|refine kA ?_ _));exact BK208.out)) : gb222 ≠ gb208))
           have n11_:=Ak ((by rw [hg];exact Nat.ne_of_lt (blk_lt (g:=gb209) (o:=.cells #[.int .u64 0,.int .u64 0,.int .u64 0,.int .u64 0] 79 (0,0)) (by (with_reducible repeat (first|refine kN ?_ _|refine kD ?_|refine kA ?_ _));exact BK209.out)) : gb209 ≠ gb222))
           have n12_:=Ak ((by rw [hg];exact Nat.ne_of_gt (blk_lt (g:=gb209) (o:=.cells #[.int .u64 0,.int .u64 0,.int .u64 0,.int .u64 0] 79 (0,0)) (by (with_reducible repeat (first|refine kN ?_ _|refine kD ?_|refine kA ?_ _));exact BK209.out)) : gb222 ≠ gb209))
           clear BK207
           clear BK208
           clear BK209
           clear HB
           have BK207:=n0_
           have BK208:=n1_
           have BK209:=n2_
           have HB:=n3_
           have BK222:=n4_
           have GW222:=n5_
           have GE222:=n6_
           have NB207_222:=n7_
           have NB222_207:=n8_
           have NB208_222:=n9_
           have NB222_208:=n10_
           have NB209_222:=n11_
           have NB222_209:=n12_
           clear n0_ n1_ n2_ n3_ n4_ n5_ n6_ n7_ n8_ n9_ n10_ n11_ n12_
           clear hb hbox hg
           refine hK.out _ _ ⟨(kC BK207.out 0).trans rfl,(kC BK207.out 1).trans rfl,(kC BK207.out 2).trans rfl,(kC BK207.out 3).trans rfl,(kC BK208.out 0).trans rfl,(kC BK208.out 1).trans rfl,(kC BK208.out 2).trans rfl,(kC BK208.out 3).trans rfl⟩ (fun hHeld => ?_)
           clear hK K
           refine norm_ (a':=?_) ?_ ?_
           rotate_left
           ·show Act.put _ (some 5) _ = _
            simp only [Act.put,sA,sZ,sS,i64_w,i32_w]
            rfl
           exact norm_ (by first|(simp only [putAll,Act.put,sA,sZ,sS];done)|(simp only [putAll,Act.put,sA,sZ,sS];rfl)) (hJ2_3_6 (gb222) _ ⟨hHeld,(by (with_reducible repeat (first|refine kN ?_ _|refine kD ?_|refine kA ?_ _));exact BK207.out),(by (with_reducible repeat (first|refine kN ?_ _|refine kD ?_|refine kA ?_ _));exact BK208.out),(by (with_reducible repeat (first|refine kN ?_ _|refine kD ?_|refine kA ?_ _));exact BK209.out),(by (with_reducible repeat (first|refine kN ?_ _|refine kD ?_|refine kA ?_ _));exact BK222.out),GW222.out,GE222.out,NB207_222.out,NB222_207.out,NB208_222.out,NB222_208.out,NB209_222.out,NB222_209.out,(by repeat (first|(with_reducible first|exact HB.out|apply bA|apply bN|apply bD|refine bS ?_ GE207.out|refine bS ?_ GE208.out|refine bS ?_ GE209.out|refine bS ?_ GE222.out)|exact HB.out))⟩)
          ·skip
           refine box_step ?hg (N:=6) ?hd (cs:=#[.int .u64 0,.int .u64 0,.int .u64 0,.int .u64 0]) (t:=79) ?hr ?_;(case hd => rfl);(case hg => rfl);(case hr => first|(go_simp;done)|(go_simp;rfl))
           intro gb223 hg w15 hbox hb
           have n0_:=Ak (kB (g:=gb207) (o:=.cells #[.int .i64 a0_0,.int .i64 a0_1,.int .i64 a0_2,.int .i64 a0_3] 35 (0,0)) (by (with_reducible repeat (first|refine kN ?_ _|refine kD ?_|refine kA ?_ _));exact BK207.out) hb)
           have n1_:=Ak (kB (g:=gb208) (o:=.cells #[.int .i64 a1_0,.int .i64 a1_1,.int .i64 a1_2,.int .i64 a1_3] 35 (0,0)) (by (with_reducible repeat (first|refine kN ?_ _|refine kD ?_|refine kA ?_ _));exact BK208.out) hb)
           have n2_:=Ak (kB (g:=gb209) (o:=.cells #[.int .u64 0,.int .u64 0,.int .u64 0,.int .u64 0] 79 (0,0)) (by (with_reducible repeat (first|refine kN ?_ _|refine kD ?_|refine kA ?_ _));exact BK209.out) hb)
           have n3_:=Ak (below_step (by repeat (first|(with_reducible first|exact HB.out|apply bA|apply bN|apply bD|refine bS ?_ GE207.out|refine bS ?_ GE208.out|refine bS ?_ GE209.out)|exact HB.out)) hb)
           have n4_:=Ak (hbox)
           have n5_:=Ak ((by rw [hg];exact (below_size (by repeat (first|(with_reducible first|exact HB.out|apply bA|apply bN|apply bD|refine bS ?_ GE207.out|refine bS ?_ GE208.out|refine bS ?_ GE209.out)|exact HB.out))) : w.heap.size ≤ gb223))
           have n6_:=Ak ((by rw [hg];exact (below_size (by repeat (first|(with_reducible first|exact HB.out|apply bA|apply bN|apply bD|refine bS ?_ GE207.out|refine bS ?_ GE208.out|refine bS ?_ GE209.out)|exact HB.out))) : w.heap.size ≤ gb223))
           have n7_:=Ak ((by rw [hg];exact Nat.ne_of_lt (blk_lt (g:=gb207) (o:=.cells #[.int .i64 a0_0,.int .i64 a0_1,.int .i64 a0_2,.int .i64 a0_3] 35 (0,0)) (by (with_reducible repeat (first|refine kN ?_ _|refine kD ?_|refine kA ?_ _));exact BK207.out)) : gb207 ≠ gb223))
           have n8_:=Ak ((by rw [hg];exact Nat.ne_of_gt (blk_lt (g:=gb207) (o:=.cells #[.int .i64 a0_0,.int .i64 a0_1,.int .i64 a0_2,.int .i64 a0_3] 35 (0,0)) (by (with_reducible repeat (first|refine kN ?_ _|refine kD ?_|refine kA ?_ _));exact BK207.out)) : gb223 ≠ gb207))
           have n9_:=Ak ((by rw [hg];exact Nat.ne_of_lt (blk_lt (g:=gb208) (o:=.cells #[.int .i64 a1_0,.int .i64 a1_1,.int .i64 a1_2,.int .i64 a1_3] 35 (0,0)) (by (with_reducible repeat (first|refine kN ?_ _|refine kD ?_|refine kA ?_ _));exact BK208.out)) : gb208 ≠ gb223))
           have n10_:=Ak ((by rw [hg];exact Nat.ne_of_gt (blk_lt (g:=gb208) (o:=.cells #[.int .i64 a1_0,.int .i64 a1_1,.int .i64 a1_2,.int .i64 a1_3] 35 (0,0)) (by (with_reducible repeat (first|refine kN ?_ _|refine kD ?_|refine kA ?_ _));exact BK208.out)) : gb223 ≠ gb208))
           have n11_:=Ak ((by rw [hg];exact Nat.ne_of_lt (blk_lt (g:=gb209) (o:=.cells #[.int .u64 0,.int .u64 0,.int .u64 0,.int .u64 0] 79 (0,0)) (by (with_reducible repeat (first|refine kN ?_ _|refine kD ?_|refine kA ?_ _));exact BK209.out)) : gb209 ≠ gb223))
           have n12_:=Ak ((by rw [hg];exact Nat.ne_of_gt (blk_lt (g:=gb209) (o:=.cells #[.int .u64 0,.int .u64 0,.int .u64 0,.int .u64 0] 79 (0,0)) (by (with_reducible repeat (first|refine kN ?_ _|refine kD ?_|refine kA ?_ _));exact BK209.out)) : gb223 ≠ gb209))
           clear BK207
           clear BK208
           clear BK209
           clear HB
           have BK207:=n0_
           have BK208:=n1_
           have BK209:=n2_
           have HB:=n3_
           have BK223:=n4_
           have GW223:=n5_
           have GE223:=n6_
           have NB207_223:=n7_
           have NB223_207:=n8_
           have NB208_223:=n9_
           have NB223_208:=n10_
           have NB209_223:=n11_
           have NB223_209:=n12_
           clear n0_ n1_ n2_ n3_ n4_ n5_ n6_ n7_ n8_ n9_ n10_ n11_ n12_
           clear hb hbox hg
           refine hK.out _ _ ⟨(kC BK207.out 0).trans rfl,(kC BK207.out 1).trans rfl,(kC BK207.out 2).trans rfl,(kC BK207.out 3).trans rfl,(kC BK208.out 0).trans rfl,(kC BK208.out 1).trans rfl,(kC BK208.out 2).trans rfl,(kC BK208.out 3).trans rfl⟩ (fun hHeld => ?_)
           clear hK K
           refine norm_ (a':=?_) ?_ ?_
           rotate_left
           ·show Act.put _ (some 6) _ = _
            simp only [Act.put,sA,sZ,sS,i64_w,i32_w]
            rfl
           exact norm_ (by first|(simp only [putAll,Act.put,sA,sZ,sS];done)|(simp only [putAll,Act.put,sA,sZ,sS];rfl)) (hJ2_3_7 (gb223) _ ⟨hHeld,(by (with_reducible repeat (first|refine kN ?_ _|refine kD ?_|refine kA ?_ _));exact BK207.out),(by (with_reducible repeat (first|refine kN ?_ _|refine kD ?_|refine kA ?_ _));exact BK208.out),(by (with_reducible repeat (first|refine kN ?_ _|refine kD ?_|refine kA ?_ _));exact BK209.out),(by (with_reducible repeat (first|refine kN ?_ _|refine kD ?_|refine kA ?_ _));exact BK223.out),GW223.out,GE223.out,NB207_223.out,NB223_207.out,NB208_223.out,NB223_208.out,NB209_223.out,NB223_209.out,(by repeat (first|(with_reducible first|exact HB.out|apply bA|apply bN|apply bD|refine bS ?_ GE207.out|refine bS ?_ GE208.out|refine bS ?_ GE209.out|refine bS ?_ GE223.out)|exact HB.out))⟩)
        ·skip
         rintro ⟨gb222,gb223⟩ w15 ⟨hS_,h0_,h1_,h2_,h3_,h4_,h5_,h6_,h7_,h8_,h9_,h10_,h11_,h12_,h13_,h14_,h15_,h16_,h17_,h18_,h19_,h20_,h21_,h22_,h23_⟩
         have n0_ : Aside0 (w15.heap[gb207]? = some (.cells #[.int .i64 a0_0,.int .i64 a0_1,.int .i64 a0_2,.int .i64 a0_3] 35 (0,0))):=⟨h0_⟩
         have n1_ : Aside0 (w15.heap[gb208]? = some (.cells #[.int .i64 a1_0,.int .i64 a1_1,.int .i64 a1_2,.int .i64 a1_3] 35 (0,0))):=⟨h1_⟩
         have n2_ : Aside0 (w15.heap[gb209]? = some (.cells #[.int .u64 0,.int .u64 0,.int .u64 0,.int .u64 0] 79 (0,0))):=⟨h2_⟩
         have n3_ : Aside0 (w15.heap[gb222]? = some (.cells #[.int .u64 0,.int .u64 0,.int .u64 0,.int .u64 0] 79 (0,0))):=⟨h3_⟩
         have n4_ : Aside0 (w15.heap[gb223]? = some (.cells #[.int .u64 0,.int .u64 0,.int .u64 0,.int .u64 0] 79 (0,0))):=⟨h4_⟩
         have n5_ : Aside0 (w.heap.size ≤ gb222):=⟨h5_⟩
         have n6_ : Aside0 (w.heap.size ≤ gb222):=⟨h6_⟩
         have n7_ : Aside0 (gb207 ≠ gb222):=⟨h7_⟩
         have n8_ : Aside0 (gb222 ≠ gb207):=⟨h8_⟩
         have n9_ : Aside0 (gb208 ≠ gb222):=⟨h9_⟩
         have n10_ : Aside0 (gb222 ≠ gb208):=⟨h10_⟩
         have n11_ : Aside0 (gb209 ≠ gb222):=⟨h11_⟩
         have n12_ : Aside0 (gb222 ≠ gb209):=⟨h12_⟩
         have n13_ : Aside0 (gb223 ≠ gb222):=⟨h13_⟩
         have n14_ : Aside0 (gb222 ≠ gb223):=⟨h14_⟩
         have n15_ : Aside0 (w.heap.size ≤ gb223):=⟨h15_⟩
         have n16_ : Aside0 (w.heap.size ≤ gb223):=⟨h16_⟩
         have n17_ : Aside0 (gb207 ≠ gb223):=⟨h17_⟩
         have n18_ : Aside0 (gb223 ≠ gb207):=⟨h18_⟩
         have n19_ : Aside0 (gb208 ≠ gb223):=⟨h19_⟩
         have n20_ : Aside0 (gb223 ≠ gb208):=⟨h20_⟩
         have n21_ : Aside0 (gb209 ≠ gb223):=⟨h21_⟩
         have n22_ : Aside0 (gb223 ≠ gb209):=⟨h22_⟩
         have n23_ : Aside0 (Below w.heap.size w w15):=⟨h23_⟩
         clear BK207
         clear BK208
         clear BK209
         clear HB
         clear h0_ h1_ h2_ h3_ h4_ h5_ h6_ h7_ h8_ h9_ h10_ h11_ h12_ h13_ h14_ h15_ h16_ h17_ h18_ h19_ h20_ h21_ h22_ h23_
         have BK207:=n0_
         have BK208:=n1_
         have BK209:=n2_
         have BK222:=n3_
         have BK223:=n4_
         have GW222:=n5_
         have GE222:=n6_
         have NB207_222:=n7_
         have NB222_207:=n8_
         have NB208_222:=n9_
         have NB222_208:=n10_
         have NB209_222:=n11_
         have NB222_209:=n12_
         have NB223_222:=n13_
         have NB222_223:=n14_
         have GW223:=n15_
         have GE223:=n16_
         have NB207_223:=n17_
         have NB223_207:=n18_
         have NB208_223:=n19_
         have NB223_208:=n20_
         have NB209_223:=n21_
         have NB223_209:=n22_
         have HB:=n23_
         clear n0_ n1_ n2_ n3_ n4_ n5_ n6_ n7_ n8_ n9_ n10_ n11_ n12_ n13_ n14_ n15_ n16_ n17_ n18_ n19_ n20_ n21_ n22_ n23_
         have hHeld : w15.cell? ⟨gb207,0,none⟩ = some (.int .i64 a0_0)∧w15.cell? ⟨gb207,1,none⟩ = some (.int .i64 a0_1)∧w15.cell? ⟨gb207,2,none⟩ = some (.int .i64 a0_2)∧w15.cell? ⟨gb207,3,none⟩ = some (.int .i64 a0_3)∧w15.cell? ⟨gb208,0,none⟩ = some (.int .i64 a1_0)∧w15.cell? ⟨gb208,1,none⟩ = some (.int .i64 a1_1)∧w15.cell? ⟨gb208,2,none⟩ = some (.int .i64 a1_2)∧w15.cell? ⟨gb208,3,none⟩ = some (.int .i64 a1_3):=hS_
         refine norm_ (a':=?_) ?_ ?_
         rotate_left
         ·simp only [putAll,Act.put,sA,sZ,sS]
          rfl
         refine one_ (i:=3) (N:=some 11) #[tt,tt,tt,tt,tt,ff,tt,tt,ff,ff] rfl rfl (one_of HT_.out (by kernel_rfl)) (by decide) (fun K hK => ?_)
         refine goes_ Try.func64 (by kernel_rfl) rfl #[.agg #[.int .i64 t210,.int .i64 t211,.int .i64 t212,.int .i64 t213]] (by rfl) rfl rfl (by (try simp only [List.map_toArray,List.map_cons,List.map_nil]);first|done|rfl|(simp only [List.length_drop,List.length_take];rfl)) ?_
         with_reducible refine (key_of.calls t210 t211 t212 t213 t214 t215 t216 t217 _ A4.out).mono ?_
         rintro e w16 ⟨rfl,hb⟩
         refine ⟨_,rfl,?_⟩
         have n0_:=Ak (kB (g:=gb207) (o:=.cells #[.int .i64 a0_0,.int .i64 a0_1,.int .i64 a0_2,.int .i64 a0_3] 35 (0,0)) (by (with_reducible repeat (first|refine kN ?_ _|refine kD ?_|refine kA ?_ _));exact BK207.out) hb)
         have n1_:=Ak (kB (g:=gb208) (o:=.cells #[.int .i64 a1_0,.int .i64 a1_1,.int .i64 a1_2,.int .i64 a1_3] 35 (0,0)) (by (with_reducible repeat (first|refine kN ?_ _|refine kD ?_|refine kA ?_ _));exact BK208.out) hb)
         have n2_:=Ak (kB (g:=gb209) (o:=.cells #[.int .u64 0,.int .u64 0,.int .u64 0,.int .u64 0] 79 (0,0)) (by (with_reducible repeat (first|refine kN ?_ _|refine kD ?_|refine kA ?_ _));exact BK209.out) hb)
         have n3_:=Ak (kB (g:=gb222) (o:=.cells #[.int .u64 0,.int .u64 0,.int .u64 0,.int .u64 0] 79 (0,0)) (by (with_reducible repeat (first|refine kN ?_ _|refine kD ?_|refine kA ?_ _));exact BK222.out) hb)
         have n4_:=Ak (kB (g:=gb223) (o:=.cells #[.int .u64 0,.int .u64 0,.int .u64 0,.int .u64 0] 79 (0,0)) (by (with_reducible repeat (first|refine kN ?_ _|refine kD ?_|refine kA ?_ _));exact BK223.out) hb)
         have n5_:=Ak (below_step (by repeat (first|(with_reducible first|exact HB.out|apply bA|apply bN|apply bD|refine bS ?_ GE207.out|refine bS ?_ GE208.out|refine bS ?_ GE209.out|refine bS ?_ GE222.out|refine bS ?_ GE223.out)|exact HB.out)) hb)
         clear BK207
         clear BK208
         clear BK209
         clear BK222
         clear BK223
         clear HB
         have BK207:=n0_
         have BK208:=n1_
         have BK209:=n2_
         have BK222:=n3_
         have BK223:=n4_
         have HB:=n5_
         clear n0_ n1_ n2_ n3_ n4_ n5_
         (try clear hb)
         (try clear hb2)
         (try clear hk)
         (try clear hi)
         refine hK.out _ _ ⟨(kC BK207.out 0).trans rfl,(kC BK207.out 1).trans rfl,(kC BK207.out 2).trans rfl,(kC BK207.out 3).trans rfl,(kC BK208.out 0).trans rfl,(kC BK208.out 1).trans rfl,(kC BK208.out 2).trans rfl,(kC BK208.out 3).trans rfl⟩ (fun hHeld => ?_)
         clear hK K
         refine norm_ (a':=?_) ?_ ?_
         rotate_left
         ·show Act.put _ (some 11) _ = _
          simp only [Act.put,sA,sZ,sS,i64_w,i32_w]
          rfl
         exact norm_ (by first|(simp only [putAll,Act.put,sA,sZ,sS];done)|(simp only [putAll,Act.put,sA,sZ,sS];rfl)) (hJ2_3_6_7 (gb222,gb223) _ ⟨hHeld,(by (with_reducible repeat (first|refine kN ?_ _|refine kD ?_|refine kA ?_ _));exact BK207.out),(by (with_reducible repeat (first|refine kN ?_ _|refine kD ?_|refine kA ?_ _));exact BK208.out),(by (with_reducible repeat (first|refine kN ?_ _|refine kD ?_|refine kA ?_ _));exact BK209.out),(by (with_reducible repeat (first|refine kN ?_ _|refine kD ?_|refine kA ?_ _));exact BK222.out),(by (with_reducible repeat (first|refine kN ?_ _|refine kD ?_|refine kA ?_ _));exact BK223.out),GW222.out,GE222.out,NB207_222.out,NB222_207.out,NB208_222.out,NB222_208.out,NB209_222.out,NB222_209.out,NB223_222.out,NB222_223.out,GW223.out,GE223.out,NB207_223.out,NB223_207.out,NB208_223.out,NB223_208.out,NB209_223.out,NB223_209.out,(by repeat (first|(with_reducible first|exact HB.out|apply bA|apply bN|apply bD|refine bS ?_ GE207.out|refine bS ?_ GE208.out|refine bS ?_ GE209.out|refine bS ?_ GE222.out|refine bS ?_ GE223.out)|exact HB.out))⟩)
       ·skip
        rintro gb223 w15 ⟨hS_,h0_,h1_,h2_,h3_,h4_,h5_,h6_,h7_,h8_,h9_,h10_,h11_,h12_⟩
        have n0_ : Aside0 (w15.heap[gb207]? = some (.cells #[.int .i64 a0_0,.int .i64 a0_1,.int .i64 a0_2,.int .i64 a0_3] 35 (0,0))):=⟨h0_⟩
        have n1_ : Aside0 (w15.heap[gb208]? = some (.cells #[.int .i64 a1_0,.int .i64 a1_1,.int .i64 a1_2,.int .i64 a1_3] 35 (0,0))):=⟨h1_⟩
        have n2_ : Aside0 (w15.heap[gb209]? = some (.cells #[.int .u64 0,.int .u64 0,.int .u64 0,.int .u64 0] 79 (0,0))):=⟨h2_⟩
        have n3_ : Aside0 (w15.heap[gb223]? = some (.cells #[.int .u64 0,.int .u64 0,.int .u64 0,.int .u64 0] 79 (0,0))):=⟨h3_⟩
        have n4_ : Aside0 (w.heap.size ≤ gb223):=⟨h4_⟩
        have n5_ : Aside0 (w.heap.size ≤ gb223):=⟨h5_⟩
        have n6_ : Aside0 (gb207 ≠ gb223):=⟨h6_⟩
        have n7_ : Aside0 (gb223 ≠ gb207):=⟨h7_⟩
        have n8_ : Aside0 (gb208 ≠ gb223):=⟨h8_⟩
        have n9_ : Aside0 (gb223 ≠ gb208):=⟨h9_⟩
        have n10_ : Aside0 (gb209 ≠ gb223):=⟨h10_⟩
        have n11_ : Aside0 (gb223 ≠ gb209):=⟨h11_⟩
        have n12_ : Aside0 (Below w.heap.size w w15):=⟨h12_⟩
        clear BK207
        clear BK208
        clear BK209
        clear HB
        clear h0_ h1_ h2_ h3_ h4_ h5_ h6_ h7_ h8_ h9_ h10_ h11_ h12_
        have BK207:=n0_
        have BK208:=n1_
        have BK209:=n2_
        have BK223:=n3_
        have GW223:=n4_
        have GE223:=n5_
        have NB207_223:=n6_
        have NB223_207:=n7_
        have NB208_223:=n8_
        have NB223_208:=n9_
        have NB209_223:=n10_
        have NB223_209:=n11_
        have HB:=n12_
        clear n0_ n1_ n2_ n3_ n4_ n5_ n6_ n7_ n8_ n9_ n10_ n11_ n12_
        have hHeld : w15.cell? ⟨gb207,0,none⟩ = some (.int .i64 a0_0)∧w15.cell? ⟨gb207,1,none⟩ = some (.int .i64 a0_1)∧w15.cell? ⟨gb207,2,none⟩ = some (.int .i64 a0_2)∧w15.cell? ⟨gb207,3,none⟩ = some (.int .i64 a0_3)∧w15.cell? ⟨gb208,0,none⟩ = some (.int .i64 a1_0)∧w15.cell? ⟨gb208,1,none⟩ = some (.int .i64 a1_1)∧w15.cell? ⟨gb208,2,none⟩ = some (.int .i64 a1_2)∧w15.cell? ⟨gb208,3,none⟩ = some (.int .i64 a1_3):=hS_
        refine norm_ (a':=?_) ?_ ?_
        rotate_left
        ·simp only [putAll,Act.put,sA,sZ,sS]
         rfl
        refine two_ (i:=5) (j:=6) (Ni:=some 13) (Nj:=some 5) #[tt,tt,tt,tt,tt,tt,ff,tt,ff,ff] #[tt,tt,tt,tt,tt,ff,tt,tt,ff,ff] rfl rfl rfl rfl (two_of HT_.out (by kernel_rfl)) (by decide) (by decide) (fun K hK => ?_) (fun K hK => ?_)
        ·skip
         refine goes_ Try.func64 (by kernel_rfl) rfl #[.agg #[.int .i64 a0_0,.int .i64 a0_1,.int .i64 a0_2,.int .i64 a0_3]] (by rfl) rfl rfl (by (try simp only [List.map_toArray,List.map_cons,List.map_nil]);first|done|rfl|(simp only [List.length_drop,List.length_take];rfl)) ?_
         with_reducible refine (key_of.calls a0_0 a0_1 a0_2 a0_3 t218 t219 t220 t221 _ A5.out).mono ?_
         rintro e w16 ⟨rfl,hb⟩
         refine ⟨_,rfl,?_⟩
         have n0_:=Ak (kB (g:=gb207) (o:=.cells #[.int .i64 a0_0,.int .i64 a0_1,.int .i64 a0_2,.int .i64 a0_3] 35 (0,0)) (by (with_reducible repeat (first|refine kN ?_ _|refine kD ?_|refine kA ?_ _));exact BK207.out) hb)
         have n1_:=Ak (kB (g:=gb208) (o:=.cells #[.int .i64 a1_0,.int .i64 a1_1,.int .i64 a1_2,.int .i64 a1_3] 35 (0,0)) (by (with_reducible repeat (first|refine kN ?_ _|refine kD ?_|refine kA ?_ _));exact BK208.out) hb)
         have n2_:=Ak (kB (g:=gb209) (o:=.cells #[.int .u64 0,.int .u64 0,.int .u64 0,.int .u64 0] 79 (0,0)) (by (with_reducible repeat (first|refine kN ?_ _|refine kD ?_|refine kA ?_ _));exact BK209.out) hb)
         have n3_:=Ak (kB (g:=gb223) (o:=.cells #[.int .u64 0,.int .u64 0,.int .u64 0,.int .u64 0] 79 (0,0)) (by (with_reducible repeat (first|refine kN ?_ _|refine kD ?_|refine kA ?_ _));exact BK223.out) hb)
         have n4_:=Ak (below_step (by repeat (first|(with_reducible first|exact HB.out|apply bA|apply bN|apply bD|refine bS ?_ GE207.out|refine bS ?_ GE208.out|refine bS ?_ GE209.out|refine bS ?_ GE223.out)|exact HB.out)) hb)
         clear BK207
         clear BK208
         clear BK209
         clear BK223
         clear HB
         have BK207:=n0_
         have BK208:=n1_
         have BK209:=n2_
         have BK223:=n3_
         have HB:=n4_
         clear n0_ n1_ n2_ n3_ n4_
         (try clear hb)
         (try clear hb2)
         (try clear hk)
         (try clear hi)
         refine hK.out _ _ ⟨(kC BK207.out 0).trans rfl,(kC BK207.out 1).trans rfl,(kC BK207.out 2).trans rfl,(kC BK207.out 3).trans rfl,(kC BK208.out 0).trans rfl,(kC BK208.out 1).trans rfl,(kC BK208.out 2).trans rfl,(kC BK208.out 3).trans rfl⟩ (fun hHeld => ?_)
         clear hK K
         refine norm_ (a':=?_) ?_ ?_
         rotate_left
         ·show Act.put _ (some 13) _ = _
          simp only [Act.put,sA,sZ,sS,i64_w,i32_w]
          rfl
         exact norm_ (by first|(simp only [putAll,Act.put,sA,sZ,sS];done)|(simp only [putAll,Act.put,sA,sZ,sS];rfl)) (hJ2_3_5_7 (gb223) _ ⟨hHeld,(by (with_reducible repeat (first|refine kN ?_ _|refine kD ?_|refine kA ?_ _));exact BK207.out),(by (with_reducible repeat (first|refine kN ?_ _|refine kD ?_|refine kA ?_ _));exact BK208.out),(by (with_reducible repeat (first|refine kN ?_ _|refine kD ?_|refine kA ?_ _));exact BK209.out),(by (with_reducible repeat (first|refine kN ?_ _|refine kD ?_|refine kA ?_ _));exact BK223.out),GW223.out,GE223.out,NB207_223.out,NB223_207.out,NB208_223.out,NB223_208.out,NB209_223.out,NB223_209.out,(by repeat (first|(with_reducible first|exact HB.out|apply bA|apply bN|apply bD|refine bS ?_ GE207.out|refine bS ?_ GE208.out|refine bS ?_ GE209.out|refine bS ?_ GE223.out)|exact HB.out))⟩)
        ·skip
         refine box_step ?hg (N:=5) ?hd (cs:=#[.int .u64 0,.int .u64 0,.int .u64 0,.int .u64 0]) (t:=79) ?hr ?_;(case hd => rfl);(case hg => rfl);(case hr => first|(go_simp;done)|(go_simp;rfl))
         intro gb222 hg w16 hbox hb
         have n0_:=Ak (kB (g:=gb207) (o:=.cells #[.int .i64 a0_0,.int .i64 a0_1,.int .i64 a0_2,.int .i64 a0_3] 35 (0,0)) (by (with_reducible repeat (first|refine kN ?_ _|refine kD ?_|refine kA ?_ _));exact BK207.out) hb)
         have n1_:=Ak (kB (g:=gb208) (o:=.cells #[.int .i64 a1_0,.int .i64 a1_1,.int .i64 a1_2,.int .i64 a1_3] 35 (0,0)) (by (with_reducible repeat (first|refine kN ?_ _|refine kD ?_|refine kA ?_ _));exact BK208.out) hb)
         have n2_:=Ak (kB (g:=gb209) (o:=.cells #[.int .u64 0,.int .u64 0,.int .u64 0,.int .u64 0] 79 (0,0)) (by (with_reducible repeat (first|refine kN ?_ _|refine kD ?_|refine kA ?_ _));exact BK209.out) hb)
         have n3_:=Ak (kB (g:=gb223) (o:=.cells #[.int .u64 0,.int .u64 0,.int .u64 0,.int .u64 0] 79 (0,0)) (by (with_reducible repeat (first|refine kN ?_ _|refine kD ?_|refine kA ?_ _));exact BK223.out) hb)
         have n4_:=Ak (below_step (by repeat (first|(with_reducible first|exact HB.out|apply bA|apply bN|apply bD|refine bS ?_ GE207.out|refine bS ?_ GE208.out|refine bS ?_ GE209.out|refine bS ?_ GE223.out)|exact HB.out)) hb)
         have n5_:=Ak (hbox)
         have n6_:=Ak ((by rw [hg];exact (below_size (by repeat (first|(with_reducible first|exact HB.out|apply bA|apply bN|apply bD|refine bS ?_ GE207.out|refine bS ?_ GE208.out|refine bS ?_ GE209.out|refine bS ?_ GE223.out)|exact HB.out))) : w.heap.size ≤ gb222))
         have n7_:=Ak ((by rw [hg];exact (below_size (by repeat (first|(with_reducible first|exact HB.out|apply bA|apply bN|apply bD|refine bS ?_ GE207.out|refine bS ?_ GE208.out|refine bS ?_ GE209.out|refine bS ?_ GE223.out)|exact HB.out))) : w.heap.size ≤ gb222))
         have n8_:=Ak ((by rw [hg];exact Nat.ne_of_lt (blk_lt (g:=gb207) (o:=.cells #[.int .i64 a0_0,.int .i64 a0_1,.int .i64 a0_2,.int .i64 a0_3] 35 (0,0)) (by (with_reducible repeat (first|refine kN ?_ _|refine kD ?_|refine kA ?_ _));exact BK207.out)) : gb207 ≠ gb222))
         have n9_:=Ak ((by rw [hg];exact Nat.ne_of_gt (blk_lt (g:=gb207) (o:=.cells #[.int .i64 a0_0,.int .i64 a0_1,.int .i64 a0_2,.int .i64 a0_3] 35 (0,0)) (by (with_reducible repeat (first|refine kN ?_ _|refine kD ?_|refine kA ?_ _));exact BK207.out)) : gb222 ≠ gb207))
         have n10_:=Ak ((by rw [hg];exact Nat.ne_of_lt (blk_lt (g:=gb208) (o:=.cells #[.int .i64 a1_0,.int .i64 a1_1,.int .i64 a1_2,.int .i64 a1_3] 35 (0,0)) (by (with_reducible repeat (first|refine kN ?_ _|refine kD ?_|refine kA ?_ _));exact BK208.out)) : gb208 ≠ gb222))
         have n11_:=Ak ((by rw [hg];exact Nat.ne_of_gt (blk_lt (g:=gb208) (o:=.cells #[.int .i64 a1_0,.int .i64 a1_1,.int .i64 a1_2,.int .i64 a1_3] 35 (0,0)) (by (with_reducible repeat (first|refine kN ?_ _|refine kD ?_|refine kA ?_ _));exact BK208.out)) : gb222 ≠ gb208))
         have n12_:=Ak ((by rw [hg];exact Nat.ne_of_lt (blk_lt (g:=gb209) (o:=.cells #[.int .u64 0,.int .u64 0,.int .u64 0,.int .u64 0] 79 (0,0)) (by (with_reducible repeat (first|refine kN ?_ _|refine kD ?_|refine kA ?_ _));exact BK209.out)) : gb209 ≠ gb222))
         have n13_:=Ak ((by rw [hg];exact Nat.ne_of_gt (blk_lt (g:=gb209) (o:=.cells #[.int .u64 0,.int .u64 0,.int .u64 0,.int .u64 0] 79 (0,0)) (by (with_reducible repeat (first|refine kN ?_ _|refine kD ?_|refine kA ?_ _));exact BK209.out)) : gb222 ≠ gb209))
         have n14_:=Ak ((by rw [hg];exact Nat.ne_of_lt (blk_lt (g:=gb223) (o:=.cells #[.int .u64 0,.int .u64 0,.int .u64 0,.int .u64 0] 79 (0,0)) (by (with_reducible repeat (first|refine kN ?_ _|refine kD ?_|refine kA ?_ _));exact BK223.out)) : gb223 ≠ gb222))
         have n15_:=Ak ((by rw [hg];exact Nat.ne_of_gt (blk_lt (g:=gb223) (o:=.cells #[.int .u64 0,.int .u64 0,.int .u64 0,.int .u64 0] 79 (0,0)) (by (with_reducible repeat (first|refine kN ?_ _|refine kD ?_|refine kA ?_ _));exact BK223.out)) : gb222 ≠ gb223))
         clear BK207
         clear BK208
         clear BK209
         clear BK223
         clear HB
         have BK207:=n0_
         have BK208:=n1_
         have BK209:=n2_
         have BK223:=n3_
         have HB:=n4_
         have BK222:=n5_
         have GW222:=n6_
         have GE222:=n7_
         have NB207_222:=n8_
         have NB222_207:=n9_
         have NB208_222:=n10_
         have NB222_208:=n11_
         have NB209_222:=n12_
         have NB222_209:=n13_
         have NB223_222:=n14_
         have NB222_223:=n15_
         clear n0_ n1_ n2_ n3_ n4_ n5_ n6_ n7_ n8_ n9_ n10_ n11_ n12_ n13_ n14_ n15_
         clear hb hbox hg
         refine hK.out _ _ ⟨(kC BK207.out 0).trans rfl,(kC BK207.out 1).trans rfl,(kC BK207.out 2).trans rfl,(kC BK207.out 3).trans rfl,(kC BK208.out 0).trans rfl,(kC BK208.out 1).trans rfl,(kC BK208.out 2).trans rfl,(kC BK208.out 3).trans rfl⟩ (fun hHeld => ?_)
         clear hK K
         refine norm_ (a':=?_) ?_ ?_
         rotate_left
         ·show Act.put _ (some 5) _ = _
          simp only [Act.put,sA,sZ,sS,i64_w,i32_w]
          rfl
         exact norm_ (by first|(simp only [putAll,Act.put,sA,sZ,sS];done)|(simp only [putAll,Act.put,sA,sZ,sS];rfl)) (hJ2_3_6_7 (gb222,gb223) _ ⟨hHeld,(by (with_reducible repeat (first|refine kN ?_ _|refine kD ?_|refine kA ?_ _));exact BK207.out),(by (with_reducible repeat (first|refine kN ?_ _|refine kD ?_|refine kA ?_ _));exact BK208.out),(by (with_reducible repeat (first|refine kN ?_ _|refine kD ?_|refine kA ?_ _));exact BK209.out),(by (with_reducible repeat (first|refine kN ?_ _|refine kD ?_|refine kA ?_ _));exact BK222.out),(by (with_reducible repeat (first|refine kN ?_ _|refine kD ?_|refine kA ?_ _));exact BK223.out),GW222.out,GE222.out,NB207_222.out,NB222_207.out,NB208_222.out,NB222_208.out,NB209_222.out,NB222_209.out,NB223_222.out,NB222_223.out,GW223.out,GE223.out,NB207_223.out,NB223_207.out,NB208_223.out,NB223_208.out,NB209_223.out,NB223_209.out,(by repeat (first|(with_reducible first|exact HB.out|apply bA|apply bN|apply bD|refine bS ?_ GE207.out|refine bS ?_ GE208.out|refine bS ?_ GE209.out|refine bS ?_ GE223.out|refine bS ?_ GE222.out)|exact HB.out))⟩)
      ·skip
       rintro gb222 w15 ⟨hS_,h0_,h1_,h2_,h3_,h4_,h5_,h6_,h7_,h8_,h9_,h10_,h11_,h12_⟩
       have n0_ : Aside0 (w15.heap[gb207]? = some (.cells #[.int .i64 a0_0,.int .i64 a0_1,.int .i64 a0_2,.int .i64 a0_3] 35 (0,0))):=⟨h0_⟩
       have n1_ : Aside0 (w15.heap[gb208]? = some (.cells #[.int .i64 a1_0,.int .i64 a1_1,.int .i64 a1_2,.int .i64 a1_3] 35 (0,0))):=⟨h1_⟩
       have n2_ : Aside0 (w15.heap[gb209]? = some (.cells #[.int .u64 0,.int .u64 0,.int .u64 0,.int .u64 0] 79 (0,0))):=⟨h2_⟩
       have n3_ : Aside0 (w15.heap[gb222]? = some (.cells #[.int .u64 0,.int .u64 0,.int .u64 0,.int .u64 0] 79 (0,0))):=⟨h3_⟩
       have n4_ : Aside0 (w.heap.size ≤ gb222):=⟨h4_⟩
       have n5_ : Aside0 (w.heap.size ≤ gb222):=⟨h5_⟩
       have n6_ : Aside0 (gb207 ≠ gb222):=⟨h6_⟩
       have n7_ : Aside0 (gb222 ≠ gb207):=⟨h7_⟩
       have n8_ : Aside0 (gb208 ≠ gb222):=⟨h8_⟩
       have n9_ : Aside0 (gb222 ≠ gb208):=⟨h9_⟩
       have n10_ : Aside0 (gb209 ≠ gb222):=⟨h10_⟩
       have n11_ : Aside0 (gb222 ≠ gb209):=⟨h11_⟩
       have n12_ : Aside0 (Below w.heap.size w w15):=⟨h12_⟩
       clear BK207
       clear BK208
       clear BK209
       clear HB
       clear h0_ h1_ h2_ h3_ h4_ h5_ h6_ h7_ h8_ h9_ h10_ h11_ h12_
       have BK207:=n0_
       have BK208:=n1_
       have BK209:=n2_
       have BK222:=n3_
       have GW222:=n4_
       have GE222:=n5_
       have NB207_222:=n6_
       have NB222_207:=n7_
       have NB208_222:=n8_
       have NB222_208:=n9_
       have NB209_222:=n10_
       have NB222_209:=n11_
       have HB:=n12_
       clear n0_ n1_ n2_ n3_ n4_ n5_ n6_ n7_ n8_ n9_ n10_ n11_ n12_
       have hHeld : w15.cell? ⟨gb207,0,none⟩ = some (.int .i64 a0_0)∧w15.cell? ⟨gb207,1,none⟩ = some (.int .i64 a0_1)∧w15.cell? ⟨gb207,2,none⟩ = some (.int .i64 a0_2)∧w15.cell? ⟨gb207,3,none⟩ = some (.int .i64 a0_3)∧w15.cell? ⟨gb208,0,none⟩ = some (.int .i64 a1_0)∧w15.cell? ⟨gb208,1,none⟩ = some (.int .i64 a1_1)∧w15.cell? ⟨gb208,2,none⟩ = some (.int .i64 a1_2)∧w15.cell? ⟨gb208,3,none⟩ = some (.int .i64 a1_3):=hS_
       refine norm_ (a':=?_) ?_ ?_
       rotate_left
       ·simp only [putAll,Act.put,sA,sZ,sS]
        rfl
       refine two_ (i:=5) (j:=7) (Ni:=some 13) (Nj:=some 6) #[tt,tt,tt,tt,tt,tt,tt,ff,ff,ff] #[tt,tt,tt,tt,tt,ff,tt,tt,ff,ff] rfl rfl rfl rfl (two_of HT_.out (by kernel_rfl)) (by decide) (by decide) (fun K hK => ?_) (fun K hK => ?_)
       ·skip
        refine goes_ Try.func64 (by kernel_rfl) rfl #[.agg #[.int .i64 a0_0,.int .i64 a0_1,.int .i64 a0_2,.int .i64 a0_3]] (by rfl) rfl rfl (by (try simp only [List.map_toArray,List.map_cons,List.map_nil]);first|done|rfl|(simp only [List.length_drop,List.length_take];rfl)) ?_
        with_reducible refine (key_of.calls a0_0 a0_1 a0_2 a0_3 t218 t219 t220 t221 _ A5.out).mono ?_
        rintro e w16 ⟨rfl,hb⟩
        refine ⟨_,rfl,?_⟩
        have n0_:=Ak (kB (g:=gb207) (o:=.cells #[.int .i64 a0_0,.int .i64 a0_1,.int .i64 a0_2,.int .i64 a0_3] 35 (0,0)) (by (with_reducible repeat (first|refine kN ?_ _|refine kD ?_|refine kA ?_ _));exact BK207.out) hb)
        have n1_:=Ak (kB (g:=gb208) (o:=.cells #[.int .i64 a1_0,.int .i64 a1_1,.int .i64 a1_2,.int .i64 a1_3] 35 (0,0)) (by (with_reducible repeat (first|refine kN ?_ _|refine kD ?_|refine kA ?_ _));exact BK208.out) hb)
        have n2_:=Ak (kB (g:=gb209) (o:=.cells #[.int .u64 0,.int .u64 0,.int .u64 0,.int .u64 0] 79 (0,0)) (by (with_reducible repeat (first|refine kN ?_ _|refine kD ?_|refine kA ?_ _));exact BK209.out) hb)
        have n3_:=Ak (kB (g:=gb222) (o:=.cells #[.int .u64 0,.int .u64 0,.int .u64 0,.int .u64 0] 79 (0,0)) (by (with_reducible repeat (first|refine kN ?_ _|refine kD ?_|refine kA ?_ _));exact BK222.out) hb)
        have n4_:=Ak (below_step (by repeat (first|(with_reducible first|exact HB.out|apply bA|apply bN|apply bD|refine bS ?_ GE207.out|refine bS ?_ GE208.out|refine bS ?_ GE209.out|refine bS ?_ GE222.out)|exact HB.out)) hb)
        clear BK207
        clear BK208
        clear BK209
        clear BK222
        clear HB
        have BK207:=n0_
        have BK208:=n1_
        have BK209:=n2_
        have BK222:=n3_
        have HB:=n4_
        clear n0_ n1_ n2_ n3_ n4_
        (try clear hb)
        (try clear hb2)
        (try clear hk)
        (try clear hi)
        refine hK.out _ _ ⟨(kC BK207.out 0).trans rfl,(kC BK207.out 1).trans rfl,(kC BK207.out 2).trans rfl,(kC BK207.out 3).trans rfl,(kC BK208.out 0).trans rfl,(kC BK208.out 1).trans rfl,(kC BK208.out 2).trans rfl,(kC BK208.out 3).trans rfl⟩ (fun hHeld => ?_)
        clear hK K
        refine norm_ (a':=?_) ?_ ?_
        rotate_left
        ·show Act.put _ (some 13) _ = _
         simp only [Act.put,sA,sZ,sS,i64_w,i32_w]
         rfl
        exact norm_ (by first|(simp only [putAll,Act.put,sA,sZ,sS];done)|(simp only [putAll,Act.put,sA,sZ,sS];rfl)) (hJ2_3_5_6 (gb222) _ ⟨hHeld,(by (with_reducible repeat (first|refine kN ?_ _|refine kD ?_|refine kA ?_ _));exact BK207.out),(by (with_reducible repeat (first|refine kN ?_ _|refine kD ?_|refine kA ?_ _));exact BK208.out),(by (with_reducible repeat (first|refine kN ?_ _|refine kD ?_|refine kA ?_ _));exact BK209.out),(by (with_reducible repeat (first|refine kN ?_ _|refine kD ?_|refine kA ?_ _));exact BK222.out),GW222.out,GE222.out,NB207_222.out,NB222_207.out,NB208_222.out,NB222_208.out,NB209_222.out,NB222_209.out,(by repeat (first|(with_reducible first|exact HB.out|apply bA|apply bN|apply bD|refine bS ?_ GE207.out|refine bS ?_ GE208.out|refine bS ?_ GE209.out|refine bS ?_ GE222.out)|exact HB.out))⟩)
       ·skip
        refine box_step ?hg (N:=6) ?hd (cs:=#[.int .u64 0,.int .u64 0,.int .u64 0,.int .u64 0]) (t:=79) ?hr ?_;(case hd => rfl);(case hg => rfl);(case hr => first|(go_simp;done)|(go_simp;rfl))
        intro gb223 hg w16 hbox hb
        have n0_:=Ak (kB (g:=gb207) (o:=.cells #[.int .i64 a0_0,.int .i64 a0_1,.int .i64 a0_2,.int .i64 a0_3] 35 (0,0)) (by (with_reducible repeat (first|refine kN ?_ _|refine kD ?_|refine kA ?_ _));exact BK207.out) hb)
        have n1_:=Ak (kB (g:=gb208) (o:=.cells #[.int .i64 a1_0,.int .i64 a1_1,.int .i64 a1_2,.int .i64 a1_3] 35 (0,0)) (by (with_reducible repeat (first|refine kN ?_ _|refine kD ?_|refine kA ?_ _));exact BK208.out) hb)
        have n2_:=Ak (kB (g:=gb209) (o:=.cells #[.int .u64 0,.int .u64 0,.int .u64 0,.int .u64 0] 79 (0,0)) (by (with_reducible repeat (first|refine kN ?_ _|refine kD ?_|refine kA ?_ _));exact BK209.out) hb)
        have n3_:=Ak (kB (g:=gb222) (o:=.cells #[.int .u64 0,.int .u64 0,.int .u64 0,.int .u64 0] 79 (0,0)) (by (with_reducible repeat (first|refine kN ?_ _|refine kD ?_|refine kA ?_ _));exact BK222.out) hb)
        have n4_:=Ak (below_step (by repeat (first|(with_reducible first|exact HB.out|apply bA|apply bN|apply bD|refine bS ?_ GE207.out|refine bS ?_ GE208.out|refine bS ?_ GE209.out|refine bS ?_ GE222.out)|exact HB.out)) hb)
        have n5_:=Ak (hbox)
        have n6_:=Ak ((by rw [hg];exact (below_size (by repeat (first|(with_reducible first|exact HB.out|apply bA|apply bN|apply bD|refine bS ?_ GE207.out|refine bS ?_ GE208.out|refine bS ?_ GE209.out|refine bS ?_ GE222.out)|exact HB.out))) : w.heap.size ≤ gb223))
        have n7_:=Ak ((by rw [hg];exact (below_size (by repeat (first|(with_reducible first|exact HB.out|apply bA|apply bN|apply bD|refine bS ?_ GE207.out|refine bS ?_ GE208.out|refine bS ?_ GE209.out|refine bS ?_ GE222.out)|exact HB.out))) : w.heap.size ≤ gb223))
        have n8_:=Ak ((by rw [hg];exact Nat.ne_of_lt (blk_lt (g:=gb207) (o:=.cells #[.int .i64 a0_0,.int .i64 a0_1,.int .i64 a0_2,.int .i64 a0_3] 35 (0,0)) (by (with_reducible repeat (first|refine kN ?_ _|refine kD ?_|refine kA ?_ _));exact BK207.out)) : gb207 ≠ gb223))
        have n9_:=Ak ((by rw [hg];exact Nat.ne_of_gt (blk_lt (g:=gb207) (o:=.cells #[.int .i64 a0_0,.int .i64 a0_1,.int .i64 a0_2,.int .i64 a0_3] 35 (0,0)) (by (with_reducible repeat (first|refine kN ?_ _|refine kD ?_|refine kA ?_ _));exact BK207.out)) : gb223 ≠ gb207))
        have n10_:=Ak ((by rw [hg];exact Nat.ne_of_lt (blk_lt (g:=gb208) (o:=.cells #[.int .i64 a1_0,.int .i64 a1_1,.int .i64 a1_2,.int .i64 a1_3] 35 (0,0)) (by (with_reducible repeat (first|refine kN ?_ _|refine kD ?_|refine kA ?_ _));exact BK208.out)) : gb208 ≠ gb223))
        have n11_:=Ak ((by rw [hg];exact Nat.ne_of_gt (blk_lt (g:=gb208) (o:=.cells #[.int .i64 a1_0,.int .i64 a1_1,.int .i64 a1_2,.int .i64 a1_3] 35 (0,0)) (by (with_reducible repeat (first|refine kN ?_ _|refine kD ?_|refine kA ?_ _));exact BK208.out)) : gb223 ≠ gb208))
        have n12_:=Ak ((by rw [hg];exact Nat.ne_of_lt (blk_lt (g:=gb209) (o:=.cells #[.int .u64 0,.int .u64 0,.int .u64 0,.int .u64 0] 79 (0,0)) (by (with_reducible repeat (first|refine kN ?_ _|refine kD ?_|refine kA ?_ _));exact BK209.out)) : gb209 ≠ gb223))
        have n13_:=Ak ((by rw [hg];exact Nat.ne_of_gt (blk_lt (g:=gb209) (o:=.cells #[.int .u64 0,.int .u64 0,.int .u64 0,.int .u64 0] 79 (0,0)) (by (with_reducible repeat (first|refine kN ?_ _|refine kD ?_|refine kA ?_ _));exact BK209.out)) : gb223 ≠ gb209))
        have n14_:=Ak ((by rw [hg];exact Nat.ne_of_lt (blk_lt (g:=gb222) (o:=.cells #[.int .u64 0,.int .u64 0,.int .u64 0,.int .u64 0] 79 (0,0)) (by (with_reducible repeat (first|refine kN ?_ _|refine kD ?_|refine kA ?_ _));exact BK222.out)) : gb222 ≠ gb223))
        have n15_:=Ak ((by rw [hg];exact Nat.ne_of_gt (blk_lt (g:=gb222) (o:=.cells #[.int .u64 0,.int .u64 0,.int .u64 0,.int .u64 0] 79 (0,0)) (by (with_reducible repeat (first|refine kN ?_ _|refine kD ?_|refine kA ?_ _));exact BK222.out)) : gb223 ≠ gb222))
        clear BK207
        clear BK208
        clear BK209
        clear BK222
        clear HB
        have BK207:=n0_
        have BK208:=n1_
        have BK209:=n2_
        have BK222:=n3_
        have HB:=n4_
        have BK223:=n5_
        have GW223:=n6_
        have GE223:=n7_
        have NB207_223:=n8_
        have NB223_207:=n9_
        have NB208_223:=n10_
        have NB223_208:=n11_
        have NB209_223:=n12_
        have NB223_209:=n13_
        have NB222_223:=n14_
        have NB223_222:=n15_
        clear n0_ n1_ n2_ n3_ n4_ n5_ n6_ n7_ n8_ n9_ n10_ n11_ n12_ n13_ n14_ n15_
        clear hb hbox hg
        refine hK.out _ _ ⟨(kC BK207.out 0).trans rfl,(kC BK207.out 1).trans rfl,(kC BK207.out 2).trans rfl,(kC BK207.out 3).trans rfl,(kC BK208.out 0).trans rfl,(kC BK208.out 1).trans rfl,(kC BK208.out 2).trans rfl,(kC BK208.out 3).trans rfl⟩ (fun hHeld => ?_)
        clear hK K
        refine norm_ (a':=?_) ?_ ?_
        rotate_left
        ·show Act.put _ (some 6) _ = _
         simp only [Act.put,sA,sZ,sS,i64_w,i32_w]
         rfl
        exact norm_ (by first|(simp only [putAll,Act.put,sA,sZ,sS];done)|(simp only [putAll,Act.put,sA,sZ,sS];rfl)) (hJ2_3_6_7 (gb222,gb223) _ ⟨hHeld,(by (with_reducible repeat (first|refine kN ?_ _|refine kD ?_|refine kA ?_ _));exact BK207.out),(by (with_reducible repeat (first|refine kN ?_ _|refine kD ?_|refine kA ?_ _));exact BK208.out),(by (with_reducible repeat (first|refine kN ?_ _|refine kD ?_|refine kA ?_ _));exact BK209.out),(by (with_reducible repeat (first|refine kN ?_ _|refine kD ?_|refine kA ?_ _));exact BK222.out),(by (with_reducible repeat (first|refine kN ?_ _|refine kD ?_|refine kA ?_ _));exact BK223.out),GW222.out,GE222.out,NB207_222.out,NB222_207.out,NB208_222.out,NB222_208.out,NB209_222.out,NB222_209.out,NB223_222.out,NB222_223.out,GW223.out,GE223.out,NB207_223.out,NB223_207.out,NB208_223.out,NB223_208.out,NB209_223.out,NB223_209.out,(by repeat (first|(with_reducible first|exact HB.out|apply bA|apply bN|apply bD|refine bS ?_ GE207.out|refine bS ?_ GE208.out|refine bS ?_ GE209.out|refine bS ?_ GE222.out|refine bS ?_ GE223.out)|exact HB.out))⟩)
     ·skip
      rintro _ w15 ⟨hS_,h0_,h1_,h2_,h3_⟩
      have n0_ : Aside0 (w15.heap[gb207]? = some (.cells #[.int .i64 a0_0,.int .i64 a0_1,.int .i64 a0_2,.int .i64 a0_3] 35 (0,0))):=⟨h0_⟩
      have n1_ : Aside0 (w15.heap[gb208]? = some (.cells #[.int .i64 a1_0,.int .i64 a1_1,.int .i64 a1_2,.int .i64 a1_3] 35 (0,0))):=⟨h1_⟩
      have n2_ : Aside0 (w15.heap[gb209]? = some (.cells #[.int .u64 0,.int .u64 0,.int .u64 0,.int .u64 0] 79 (0,0))):=⟨h2_⟩
      have n3_ : Aside0 (Below w.heap.size w w15):=⟨h3_⟩
      clear BK207
      clear BK208
      clear BK209
      clear HB
      clear h0_ h1_ h2_ h3_
      have BK207:=n0_
      have BK208:=n1_
      have BK209:=n2_
      have HB:=n3_
      clear n0_ n1_ n2_ n3_
      have hHeld : w15.cell? ⟨gb207,0,none⟩ = some (.int .i64 a0_0)∧w15.cell? ⟨gb207,1,none⟩ = some (.int .i64 a0_1)∧w15.cell? ⟨gb207,2,none⟩ = some (.int .i64 a0_2)∧w15.cell? ⟨gb207,3,none⟩ = some (.int .i64 a0_3)∧w15.cell? ⟨gb208,0,none⟩ = some (.int .i64 a1_0)∧w15.cell? ⟨gb208,1,none⟩ = some (.int .i64 a1_1)∧w15.cell? ⟨gb208,2,none⟩ = some (.int .i64 a1_2)∧w15.cell? ⟨gb208,3,none⟩ = some (.int .i64 a1_3):=hS_
      refine norm_ (a':=?_) ?_ ?_
      rotate_left
      ·simp only [putAll,Act.put,sA,sZ,sS]
       rfl
      refine two_ (i:=6) (j:=7) (Ni:=some 5) (Nj:=some 6) #[tt,tt,tt,tt,tt,tt,tt,ff,ff,ff] #[tt,tt,tt,tt,tt,tt,ff,tt,ff,ff] rfl rfl rfl rfl (two_of HT_.out (by kernel_rfl)) (by decide) (by decide) (fun K hK => ?_) (fun K hK => ?_)
      ·skip
       refine box_step ?hg (N:=5) ?hd (cs:=#[.int .u64 0,.int .u64 0,.int .u64 0,.int .u64 0]) (t:=79) ?hr ?_;(case hd => rfl);(case hg => rfl);(case hr => first|(go_simp;done)|(go_simp;rfl))
       intro gb222 hg w16 hbox hb
       have n0_:=Ak (kB (g:=gb207) (o:=.cells #[.int .i64 a0_0,.int .i64 a0_1,.int .i64 a0_2,.int .i64 a0_3] 35 (0,0)) (by (with_reducible repeat (first|refine kN ?_ _|refine kD ?_|refine kA ?_ _));exact BK207.out) hb)
       have n1_:=Ak (kB (g:=gb208) (o:=.cells #[.int .i64 a1_0,.int .i64 a1_1,.int .i64 a1_2,.int .i64 a1_3] 35 (0,0)) (by (with_reducible repeat (first|refine kN ?_ _|refine kD ?_|refine kA ?_ _));exact BK208.out) hb)
       have n2_:=Ak (kB (g:=gb209) (o:=.cells #[.int .u64 0,.int .u64 0,.int .u64 0,.int .u64 0] 79 (0,0)) (by (with_reducible repeat (first|refine kN ?_ _|refine kD ?_|refine kA ?_ _));exact BK209.out) hb)
       have n3_:=Ak (below_step (by repeat (first|(with_reducible first|exact HB.out|apply bA|apply bN|apply bD|refine bS ?_ GE207.out|refine bS ?_ GE208.out|refine bS ?_ GE209.out)|exact HB.out)) hb)
       have n4_:=Ak (hbox)
       have n5_:=Ak ((by rw [hg];exact (below_size (by repeat (first|(with_reducible first|exact HB.out|apply bA|apply bN|apply bD|refine bS ?_ GE207.out|refine bS ?_ GE208.out|refine bS ?_ GE209.out)|exact HB.out))) : w.heap.size ≤ gb222))
       have n6_:=Ak ((by rw [hg];exact (below_size (by repeat (first|(with_reducible first|exact HB.out|apply bA|apply bN|apply bD|refine bS ?_ GE207.out|refine bS ?_ GE208.out|refine bS ?_ GE209.out)|exact HB.out))) : w.heap.size ≤ gb222))
       have n7_:=Ak ((by rw [hg];exact Nat.ne_of_lt (blk_lt (g:=gb207) (o:=.cells #[.int .i64 a0_0,.int .i64 a0_1,.int .i64 a0_2,.int .i64 a0_3] 35 (0,0)) (by (with_reducible repeat (first|refine kN ?_ _|refine kD ?_|refine kA ?_ _));exact BK207.out)) : gb207 ≠ gb222))
       have n8_:=Ak ((by rw [hg];exact Nat.ne_of_gt (blk_lt (g:=gb207) (o:=.cells #[.int .i64 a0_0,.int .i64 a0_1,.int .i64 a0_2,.int .i64 a0_3] 35 (0,0)) (by (with_reducible repeat (first|refine kN ?_ _|refine kD ?_|refine kA ?_ _));exact BK207.out)) : gb222 ≠ gb207))
       have n9_:=Ak ((by rw [hg];exact Nat.ne_of_lt (blk_lt (g:=gb208) (o:=.cells #[.int .i64 a1_0,.int .i64 a1_1,.int .i64 a1_2,.int .i64 a1_3] 35 (0,0)) (by (with_reducible repeat (first|refine kN ?_ _|refine kD ?_|refine kA ?_ _));exact BK208.out)) : gb208 ≠ gb222))
       have n10_:=Ak ((by rw [hg];exact Nat.ne_of_gt (blk_lt (g:=gb208) (o:=.cells #[.int .i64 a1_0,.int .i64 a1_1,.int .i64 a1_2,.int .i64 a1_3] 35 (0,0)) (by (with_reducible repeat (first|refine kN ?_ _|refine kD ?_|refine kA ?_ _));exact BK208.out)) : gb222 ≠ gb208))
       have n11_:=Ak ((by rw [hg];exact Nat.ne_of_lt (blk_lt (g:=gb209) (o:=.cells #[.int .u64 0,.int .u64 0,.int .u64 0,.int .u64 0] 79 (0,0)) (by (with_reducible repeat (first|refine kN ?_ _|refine kD ?_|refine kA ?_ _));exact BK209.out)) : gb209 ≠ gb222))
       have n12_:=Ak ((by rw [hg];exact Nat.ne_of_gt (blk_lt (g:=gb209) (o:=.cells #[.int .u64 0,.int .u64 0,.int .u64 0,.int .u64 0] 79 (0,0)) (by (with_reducible repeat (first|refine kN ?_ _|refine kD ?_|refine kA ?_ _));exact BK209.out)) : gb222 ≠ gb209))
       clear BK207
       clear BK208
       clear BK209
       clear HB
       have BK207:=n0_
       have BK208:=n1_
       have BK209:=n2_
       have HB:=n3_
       have BK222:=n4_
       have GW222:=n5_
       have GE222:=n6_
       have NB207_222:=n7_
       have NB222_207:=n8_
       have NB208_222:=n9_
       have NB222_208:=n10_
       have NB209_222:=n11_
       have NB222_209:=n12_
       clear n0_ n1_ n2_ n3_ n4_ n5_ n6_ n7_ n8_ n9_ n10_ n11_ n12_
       clear hb hbox hg
       refine hK.out _ _ ⟨(kC BK207.out 0).trans rfl,(kC BK207.out 1).trans rfl,(kC BK207.out 2).trans rfl,(kC BK207.out 3).trans rfl,(kC BK208.out 0).trans rfl,(kC BK208.out 1).trans rfl,(kC BK208.out 2).trans rfl,(kC BK208.out 3).trans rfl⟩ (fun hHeld => ?_)
       clear hK K
       refine norm_ (a':=?_) ?_ ?_
       rotate_left
       ·show Act.put _ (some 5) _ = _
        simp only [Act.put,sA,sZ,sS,i64_w,i32_w]
        rfl
       exact norm_ (by first|(simp only [putAll,Act.put,sA,sZ,sS];done)|(simp only [putAll,Act.put,sA,sZ,sS];rfl)) (hJ2_3_5_6 (gb222) _ ⟨hHeld,(by (with_reducible repeat (first|refine kN ?_ _|refine kD ?_|refine kA ?_ _));exact BK207.out),(by (with_reducible repeat (first|refine kN ?_ _|refine kD ?_|refine kA ?_ _));exact BK208.out),(by (with_reducible repeat (first|refine kN ?_ _|refine kD ?_|refine kA ?_ _));exact BK209.out),(by (with_reducible repeat (first|refine kN ?_ _|refine kD ?_|refine kA ?_ _));exact BK222.out),GW222.out,GE222.out,NB207_222.out,NB222_207.out,NB208_222.out,NB222_208.out,NB209_222.out,NB222_209.out,(by repeat (first|(with_reducible first|exact HB.out|apply bA|apply bN|apply bD|refine bS ?_ GE207.out|refine bS ?_ GE208.out|refine bS ?_ GE209.out|refine bS ?_ GE222.out)|exact HB.out))⟩)
      ·skip
       refine box_step ?hg (N:=6) ?hd (cs:=#[.int .u64 0,.int .u64 0,.int .u64 0,.int .u64 0]) (t:=79) ?hr ?_;(case hd => rfl);(case hg => rfl);(case hr => first|(go_simp;done)|(go_simp;rfl))
       intro gb223 hg w16 hbox hb
       have n0_:=Ak (kB (g:=gb207) (o:=.cells #[.int .i64 a0_0,.int .i64 a0_1,.int .i64 a0_2,.int .i64 a0_3] 35 (0,0)) (by (with_reducible repeat (first|refine kN ?_ _|refine kD ?_|refine kA ?_ _));exact BK207.out) hb)
       have n1_:=Ak (kB (g:=gb208) (o:=.cells #[.int .i64 a1_0,.int .i64 a1_1,.int .i64 a1_2,.int .i64 a1_3] 35 (0,0)) (by (with_reducible repeat (first|refine kN ?_ _|refine kD ?_|refine kA ?_ _));exact BK208.out) hb)
       have n2_:=Ak (kB (g:=gb209) (o:=.cells #[.int .u64 0,.int .u64 0,.int .u64 0,.int .u64 0] 79 (0,0)) (by (with_reducible repeat (first|refine kN ?_ _|refine kD ?_|refine kA ?_ _));exact BK209.out) hb)
       have n3_:=Ak (below_step (by repeat (first|(with_reducible first|exact HB.out|apply bA|apply bN|apply bD|refine bS ?_ GE207.out|refine bS ?_ GE208.out|refine bS ?_ GE209.out)|exact HB.out)) hb)
       have n4_:=Ak (hbox)
       have n5_:=Ak ((by rw [hg];exact (below_size (by repeat (first|(with_reducible first|exact HB.out|apply bA|apply bN|apply bD|refine bS ?_ GE207.out|refine bS ?_ GE208.out|refine bS ?_ GE209.out)|exact HB.out))) : w.heap.size ≤ gb223))
       have n6_:=Ak ((by rw [hg];exact (below_size (by repeat (first|(with_reducible first|exact HB.out|apply bA|apply bN|apply bD|refine bS ?_ GE207.out|refine bS ?_ GE208.out|refine bS ?_ GE209.out)|exact HB.out))) : w.heap.size ≤ gb223))
       have n7_:=Ak ((by rw [hg];exact Nat.ne_of_lt (blk_lt (g:=gb207) (o:=.cells #[.int .i64 a0_0,.int .i64 a0_1,.int .i64 a0_2,.int .i64 a0_3] 35 (0,0)) (by (with_reducible repeat (first|refine kN ?_ _|refine kD ?_|refine kA ?_ _));exact BK207.out)) : gb207 ≠ gb223))
       have n8_:=Ak ((by rw [hg];exact Nat.ne_of_gt (blk_lt (g:=gb207) (o:=.cells #[.int .i64 a0_0,.int .i64 a0_1,.int .i64 a0_2,.int .i64 a0_3] 35 (0,0)) (by (with_reducible repeat (first|refine kN ?_ _|refine kD ?_|refine kA ?_ _));exact BK207.out)) : gb223 ≠ gb207))
       have n9_:=Ak ((by rw [hg];exact Nat.ne_of_lt (blk_lt (g:=gb208) (o:=.cells #[.int .i64 a1_0,.int .i64 a1_1,.int .i64 a1_2,.int .i64 a1_3] 35 (0,0)) (by (with_reducible repeat (first|refine kN ?_ _|refine kD ?_|refine kA ?_ _));exact BK208.out)) : gb208 ≠ gb223))
       have n10_:=Ak ((by rw [hg];exact Nat.ne_of_gt (blk_lt (g:=gb208) (o:=.cells #[.int .i64 a1_0,.int .i64 a1_1,.int .i64 a1_2,.int .i64 a1_3] 35 (0,0)) (by (with_reducible repeat (first|refine kN ?_ _|refine kD ?_|refine kA ?_ _));exact BK208.out)) : gb223 ≠ gb208))
       have n11_:=Ak ((by rw [hg];exact Nat.ne_of_lt (blk_lt (g:=gb209) (o:=.cells #[.int .u64 0,.int .u64 0,.int .u64 0,.int .u64 0] 79 (0,0)) (by (with_reducible repeat (first|refine kN ?_ _|refine kD ?_|refine kA ?_ _));exact BK209.out)) : gb209 ≠ gb223))
       have n12_:=Ak ((by rw [hg];exact Nat.ne_of_gt (blk_lt (g:=gb209) (o:=.cells #[.int .u64 0,.int .u64 0,.int .u64 0,.int .u64 0] 79 (0,0)) (by (with_reducible repeat (first|refine kN ?_ _|refine kD ?_|refine kA ?_ _));exact BK209.out)) : gb223 ≠ gb209))
       clear BK207
       clear BK208
       clear BK209
       clear HB
       have BK207:=n0_
       have BK208:=n1_
       have BK209:=n2_
       have HB:=n3_
       have BK223:=n4_
       have GW223:=n5_
       have GE223:=n6_
       have NB207_223:=n7_
       have NB223_207:=n8_
       have NB208_223:=n9_
       have NB223_208:=n10_
       have NB209_223:=n11_
       have NB223_209:=n12_
       clear n0_ n1_ n2_ n3_ n4_ n5_ n6_ n7_ n8_ n9_ n10_ n11_ n12_
       clear hb hbox hg
       refine hK.out _ _ ⟨(kC BK207.out 0).trans rfl,(kC BK207.out 1).trans rfl,(kC BK207.out 2).trans rfl,(kC BK207.out 3).trans rfl,(kC BK208.out 0).trans rfl,(kC BK208.out 1).trans rfl,(kC BK208.out 2).trans rfl,(kC BK208.out 3).trans rfl⟩ (fun hHeld => ?_)
       clear hK K
       refine norm_ (a':=?_) ?_ ?_
       rotate_left
       ·show Act.put _ (some 6) _ = _
        simp only [Act.put,sA,sZ,sS,i64_w,i32_w]
        rfl
       exact norm_ (by first|(simp only [putAll,Act.put,sA,sZ,sS];done)|(simp only [putAll,Act.put,sA,sZ,sS];rfl)) (hJ2_3_5_7 (gb223) _ ⟨hHeld,(by (with_reducible repeat (first|refine kN ?_ _|refine kD ?_|refine kA ?_ _));exact BK207.out),(by (with_reducible repeat (first|refine kN ?_ _|refine kD ?_|refine kA ?_ _));exact BK208.out),(by (with_reducible repeat (first|refine kN ?_ _|refine kD ?_|refine kA ?_ _));exact BK209.out),(by (with_reducible repeat (first|refine kN ?_ _|refine kD ?_|refine kA ?_ _));exact BK223.out),GW223.out,GE223.out,NB207_223.out,NB223_207.out,NB208_223.out,NB223_208.out,NB209_223.out,NB223_209.out,(by repeat (first|(with_reducible first|exact HB.out|apply bA|apply bN|apply bD|refine bS ?_ GE207.out|refine bS ?_ GE208.out|refine bS ?_ GE209.out|refine bS ?_ GE223.out)|exact HB.out))⟩)
    ·skip
     rintro ⟨gb222,gb223⟩ w16 ⟨hS_,h0_,h1_,h2_,h3_,h4_,h5_,h6_,h7_,h8_,h9_,h10_,h11_,h12_,h13_,h14_,h15_,h16_,h17_,h18_,h19_,h20_,h21_,h22_,h23_⟩
     have n0_ : Aside0 (w16.heap[gb207]? = some (.cells #[.int .i64 a0_0,.int .i64 a0_1,.int .i64 a0_2,.int .i64 a0_3] 35 (0,0))):=⟨h0_⟩
     have n1_ : Aside0 (w16.heap[gb208]? = some (.cells #[.int .i64 a1_0,.int .i64 a1_1,.int .i64 a1_2,.int .i64 a1_3] 35 (0,0))):=⟨h1_⟩
     have n2_ : Aside0 (w16.heap[gb209]? = some (.cells #[.int .u64 0,.int .u64 0,.int .u64 0,.int .u64 0] 79 (0,0))):=⟨h2_⟩
     have n3_ : Aside0 (w16.heap[gb222]? = some (.cells #[.int .u64 0,.int .u64 0,.int .u64 0,.int .u64 0] 79 (0,0))):=⟨h3_⟩
     have n4_ : Aside0 (w16.heap[gb223]? = some (.cells #[.int .u64 0,.int .u64 0,.int .u64 0,.int .u64 0] 79 (0,0))):=⟨h4_⟩
     have n5_ : Aside0 (w.heap.size ≤ gb222):=⟨h5_⟩
     have n6_ : Aside0 (w.heap.size ≤ gb222):=⟨h6_⟩
     have n7_ : Aside0 (gb207 ≠ gb222):=⟨h7_⟩
     have n8_ : Aside0 (gb222 ≠ gb207):=⟨h8_⟩
     have n9_ : Aside0 (gb208 ≠ gb222):=⟨h9_⟩
     have n10_ : Aside0 (gb222 ≠ gb208):=⟨h10_⟩
     have n11_ : Aside0 (gb209 ≠ gb222):=⟨h11_⟩
     have n12_ : Aside0 (gb222 ≠ gb209):=⟨h12_⟩
     have n13_ : Aside0 (gb223 ≠ gb222):=⟨h13_⟩
     have n14_ : Aside0 (gb222 ≠ gb223):=⟨h14_⟩
     have n15_ : Aside0 (w.heap.size ≤ gb223):=⟨h15_⟩
     have n16_ : Aside0 (w.heap.size ≤ gb223):=⟨h16_⟩
     have n17_ : Aside0 (gb207 ≠ gb223):=⟨h17_⟩
     have n18_ : Aside0 (gb223 ≠ gb207):=⟨h18_⟩
     have n19_ : Aside0 (gb208 ≠ gb223):=⟨h19_⟩
     have n20_ : Aside0 (gb223 ≠ gb208):=⟨h20_⟩
     have n21_ : Aside0 (gb209 ≠ gb223):=⟨h21_⟩
     have n22_ : Aside0 (gb223 ≠ gb209):=⟨h22_⟩
     have n23_ : Aside0 (Below w.heap.size w w16):=⟨h23_⟩
     clear BK207
     clear BK208
     clear BK209
     clear HB
     clear h0_ h1_ h2_ h3_ h4_ h5_ h6_ h7_ h8_ h9_ h10_ h11_ h12_ h13_ h14_ h15_ h16_ h17_ h18_ h19_ h20_ h21_ h22_ h23_
     have BK207:=n0_
     have BK208:=n1_
     have BK209:=n2_
     have BK222:=n3_
     have BK223:=n4_
     have GW222:=n5_
     have GE222:=n6_
     have NB207_222:=n7_
     have NB222_207:=n8_
     have NB208_222:=n9_
     have NB222_208:=n10_
     have NB209_222:=n11_
     have NB222_209:=n12_
     have NB223_222:=n13_
     have NB222_223:=n14_
     have GW223:=n15_
     have GE223:=n16_
     have NB207_223:=n17_
     have NB223_207:=n18_
     have NB208_223:=n19_
     have NB223_208:=n20_
     have NB209_223:=n21_
     have NB223_209:=n22_
     have HB:=n23_
     clear n0_ n1_ n2_ n3_ n4_ n5_ n6_ n7_ n8_ n9_ n10_ n11_ n12_ n13_ n14_ n15_ n16_ n17_ n18_ n19_ n20_ n21_ n22_ n23_
     have hHeld : w16.cell? ⟨gb207,0,none⟩ = some (.int .i64 a0_0)∧w16.cell? ⟨gb207,1,none⟩ = some (.int .i64 a0_1)∧w16.cell? ⟨gb207,2,none⟩ = some (.int .i64 a0_2)∧w16.cell? ⟨gb207,3,none⟩ = some (.int .i64 a0_3)∧w16.cell? ⟨gb208,0,none⟩ = some (.int .i64 a1_0)∧w16.cell? ⟨gb208,1,none⟩ = some (.int .i64 a1_1)∧w16.cell? ⟨gb208,2,none⟩ = some (.int .i64 a1_2)∧w16.cell? ⟨gb208,3,none⟩ = some (.int .i64 a1_3):=hS_
     refine norm_ (a':=?_) ?_ ?_
     rotate_left
     ·simp only [putAll,Act.put,sA,sZ,sS]
      rfl
     refine one_ (i:=5) (N:=some 13) #[tt,tt,tt,tt,tt,tt,tt,tt,ff,ff] rfl rfl (one_of HT_.out (by kernel_rfl)) (by decide) (fun K hK => ?_)
     refine goes_ Try.func64 (by kernel_rfl) rfl #[.agg #[.int .i64 a0_0,.int .i64 a0_1,.int .i64 a0_2,.int .i64 a0_3]] (by rfl) rfl rfl (by (try simp only [List.map_toArray,List.map_cons,List.map_nil]);first|done|rfl|(simp only [List.length_drop,List.length_take];rfl)) ?_
     with_reducible refine (key_of.calls a0_0 a0_1 a0_2 a0_3 t218 t219 t220 t221 _ A5.out).mono ?_
     rintro e w17 ⟨rfl,hb⟩
     refine ⟨_,rfl,?_⟩
     have n0_:=Ak (kB (g:=gb207) (o:=.cells #[.int .i64 a0_0,.int .i64 a0_1,.int .i64 a0_2,.int .i64 a0_3] 35 (0,0)) (by (with_reducible repeat (first|refine kN ?_ _|refine kD ?_|refine kA ?_ _));exact BK207.out) hb)
     have n1_:=Ak (kB (g:=gb208) (o:=.cells #[.int .i64 a1_0,.int .i64 a1_1,.int .i64 a1_2,.int .i64 a1_3] 35 (0,0)) (by (with_reducible repeat (first|refine kN ?_ _|refine kD ?_|refine kA ?_ _));exact BK208.out) hb)
     have n2_:=Ak (kB (g:=gb209) (o:=.cells #[.int .u64 0,.int .u64 0,.int .u64 0,.int .u64 0] 79 (0,0)) (by (with_reducible repeat (first|refine kN ?_ _|refine kD ?_|refine kA ?_ _));exact BK209.out) hb)
     have n3_:=Ak (kB (g:=gb222) (o:=.cells #[.int .u64 0,.int .u64 0,.int .u64 0,.int .u64 0] 79 (0,0)) (by (with_reducible repeat (first|refine kN ?_ _|refine kD ?_|refine kA ?_ _));exact BK222.out) hb)
     have n4_:=Ak (kB (g:=gb223) (o:=.cells #[.int .u64 0,.int .u64 0,.int .u64 0,.int .u64 0] 79 (0,0)) (by (with_reducible repeat (first|refine kN ?_ _|refine kD ?_|refine kA ?_ _));exact BK223.out) hb)
     have n5_:=Ak (below_step (by repeat (first|(with_reducible first|exact HB.out|apply bA|apply bN|apply bD|refine bS ?_ GE207.out|refine bS ?_ GE208.out|refine bS ?_ GE209.out|refine bS ?_ GE222.out|refine bS ?_ GE223.out)|exact HB.out)) hb)
     clear BK207
     clear BK208
     clear BK209
     clear BK222
     clear BK223
     clear HB
     have BK207:=n0_
     have BK208:=n1_
     have BK209:=n2_
     have BK222:=n3_
     have BK223:=n4_
     have HB:=n5_
     clear n0_ n1_ n2_ n3_ n4_ n5_
     (try clear hb)
     (try clear hb2)
     (try clear hk)
     (try clear hi)
     refine hK.out _ _ ⟨(kC BK207.out 0).trans rfl,(kC BK207.out 1).trans rfl,(kC BK207.out 2).trans rfl,(kC BK207.out 3).trans rfl,(kC BK208.out 0).trans rfl,(kC BK208.out 1).trans rfl,(kC BK208.out 2).trans rfl,(kC BK208.out 3).trans rfl⟩ (fun hHeld => ?_)
     clear hK K
     refine norm_ (a':=?_) ?_ ?_
     rotate_left
     ·show Act.put _ (some 13) _ = _
      simp only [Act.put,sA,sZ,sS,i64_w,i32_w]
      rfl
     exact norm_ (by first|(simp only [putAll,Act.put,sA,sZ,sS];done)|(simp only [putAll,Act.put,sA,sZ,sS];rfl)) (hJ2_3_5_6_7 (gb222,gb223) _ ⟨hHeld,(by (with_reducible repeat (first|refine kN ?_ _|refine kD ?_|refine kA ?_ _));exact BK207.out),(by (with_reducible repeat (first|refine kN ?_ _|refine kD ?_|refine kA ?_ _));exact BK208.out),(by (with_reducible repeat (first|refine kN ?_ _|refine kD ?_|refine kA ?_ _));exact BK209.out),(by (with_reducible repeat (first|refine kN ?_ _|refine kD ?_|refine kA ?_ _));exact BK222.out),(by (with_reducible repeat (first|refine kN ?_ _|refine kD ?_|refine kA ?_ _));exact BK223.out),GW222.out,GE222.out,NB207_222.out,NB222_207.out,NB208_222.out,NB222_208.out,NB209_222.out,NB222_209.out,NB223_222.out,NB222_223.out,GW223.out,GE223.out,NB207_223.out,NB223_207.out,NB208_223.out,NB223_208.out,NB209_223.out,NB223_209.out,(by repeat (first|(with_reducible first|exact HB.out|apply bA|apply bN|apply bD|refine bS ?_ GE207.out|refine bS ?_ GE208.out|refine bS ?_ GE209.out|refine bS ?_ GE222.out|refine bS ?_ GE223.out)|exact HB.out))⟩)
   ·skip
    rintro gb223 w16 ⟨hS_,h0_,h1_,h2_,h3_,h4_,h5_,h6_,h7_,h8_,h9_,h10_,h11_,h12_⟩
    have n0_ : Aside0 (w16.heap[gb207]? = some (.cells #[.int .i64 a0_0,.int .i64 a0_1,.int .i64 a0_2,.int .i64 a0_3] 35 (0,0))):=⟨h0_⟩
    have n1_ : Aside0 (w16.heap[gb208]? = some (.cells #[.int .i64 a1_0,.int .i64 a1_1,.int .i64 a1_2,.int .i64 a1_3] 35 (0,0))):=⟨h1_⟩
    have n2_ : Aside0 (w16.heap[gb209]? = some (.cells #[.int .u64 0,.int .u64 0,.int .u64 0,.int .u64 0] 79 (0,0))):=⟨h2_⟩
    have n3_ : Aside0 (w16.heap[gb223]? = some (.cells #[.int .u64 0,.int .u64 0,.int .u64 0,.int .u64 0] 79 (0,0))):=⟨h3_⟩
    have n4_ : Aside0 (w.heap.size ≤ gb223):=⟨h4_⟩
    have n5_ : Aside0 (w.heap.size ≤ gb223):=⟨h5_⟩
    have n6_ : Aside0 (gb207 ≠ gb223):=⟨h6_⟩
    have n7_ : Aside0 (gb223 ≠ gb207):=⟨h7_⟩
    have n8_ : Aside0 (gb208 ≠ gb223):=⟨h8_⟩
    have n9_ : Aside0 (gb223 ≠ gb208):=⟨h9_⟩
    have n10_ : Aside0 (gb209 ≠ gb223):=⟨h10_⟩
    have n11_ : Aside0 (gb223 ≠ gb209):=⟨h11_⟩
    have n12_ : Aside0 (Below w.heap.size w w16):=⟨h12_⟩
    clear BK207
    clear BK208
    clear BK209
    clear HB
    clear h0_ h1_ h2_ h3_ h4_ h5_ h6_ h7_ h8_ h9_ h10_ h11_ h12_
    have BK207:=n0_
    have BK208:=n1_
    have BK209:=n2_
    have BK223:=n3_
    have GW223:=n4_
    have GE223:=n5_
    have NB207_223:=n6_
    have NB223_207:=n7_
    have NB208_223:=n8_
    have NB223_208:=n9_
    have NB209_223:=n10_
    have NB223_209:=n11_
    have HB:=n12_
    clear n0_ n1_ n2_ n3_ n4_ n5_ n6_ n7_ n8_ n9_ n10_ n11_ n12_
    have hHeld : w16.cell? ⟨gb207,0,none⟩ = some (.int .i64 a0_0)∧w16.cell? ⟨gb207,1,none⟩ = some (.int .i64 a0_1)∧w16.cell? ⟨gb207,2,none⟩ = some (.int .i64 a0_2)∧w16.cell? ⟨gb207,3,none⟩ = some (.int .i64 a0_3)∧w16.cell? ⟨gb208,0,none⟩ = some (.int .i64 a1_0)∧w16.cell? ⟨gb208,1,none⟩ = some (.int .i64 a1_1)∧w16.cell? ⟨gb208,2,none⟩ = some (.int .i64 a1_2)∧w16.cell? ⟨gb208,3,none⟩ = some (.int .i64 a1_3):=hS_
    refine norm_ (a':=?_) ?_ ?_
    rotate_left
    ·simp only [putAll,Act.put,sA,sZ,sS]
     rfl
    refine one_ (i:=6) (N:=some 5) #[tt,tt,tt,tt,tt,tt,tt,tt,ff,ff] rfl rfl (one_of HT_.out (by kernel_rfl)) (by decide) (fun K hK => ?_)
    refine box_step ?hg (N:=5) ?hd (cs:=#[.int .u64 0,.int .u64 0,.int .u64 0,.int .u64 0]) (t:=79) ?hr ?_;(case hd => rfl);(case hg => rfl);(case hr => first|(go_simp;done)|(go_simp;rfl))
    intro gb222 hg w17 hbox hb
    have n0_:=Ak (kB (g:=gb207) (o:=.cells #[.int .i64 a0_0,.int .i64 a0_1,.int .i64 a0_2,.int .i64 a0_3] 35 (0,0)) (by (with_reducible repeat (first|refine kN ?_ _|refine kD ?_|refine kA ?_ _));exact BK207.out) hb)
    have n1_:=Ak (kB (g:=gb208) (o:=.cells #[.int .i64 a1_0,.int .i64 a1_1,.int .i64 a1_2,.int .i64 a1_3] 35 (0,0)) (by (with_reducible repeat (first|refine kN ?_ _|refine kD ?_|refine kA ?_ _));exact BK208.out) hb)
    have n2_:=Ak (kB (g:=gb209) (o:=.cells #[.int .u64 0,.int .u64 0,.int .u64 0,.int .u64 0] 79 (0,0)) (by (with_reducible repeat (first|refine kN ?_ _|refine kD ?_|refine kA ?_ _));exact BK209.out) hb)
    have n3_:=Ak (kB (g:=gb223) (o:=.cells #[.int .u64 0,.int .u64 0,.int .u64 0,.int .u64 0] 79 (0,0)) (by (with_reducible repeat (first|refine kN ?_ _|refine kD ?_|refine kA ?_ _));exact BK223.out) hb)
    have n4_:=Ak (below_step (by repeat (first|(with_reducible first|exact HB.out|apply bA|apply bN|apply bD|refine bS ?_ GE207.out|refine bS ?_ GE208.out|refine bS ?_ GE209.out|refine bS ?_ GE223.out)|exact HB.out)) hb)
    have n5_:=Ak (hbox)
    have n6_:=Ak ((by rw [hg];exact (below_size (by repeat (first|(with_reducible first|exact HB.out|apply bA|apply bN|apply bD|refine bS ?_ GE207.out|refine bS ?_ GE208.out|refine bS ?_ GE209.out|refine bS ?_ GE223.out)|exact HB.out))) : w.heap.size ≤ gb222))
    have n7_:=Ak ((by rw [hg];exact (below_size (by repeat (first|(with_reducible first|exact HB.out|apply bA|apply bN|apply bD|refine bS ?_ GE207.out|refine bS ?_ GE208.out|refine bS ?_ GE209.out|refine bS ?_ GE223.out)|exact HB.out))) : w.heap.size ≤ gb222))
    have n8_:=Ak ((by rw [hg];exact Nat.ne_of_lt (blk_lt (g:=gb207) (o:=.cells #[.int .i64 a0_0,.int .i64 a0_1,.int .i64 a0_2,.int .i64 a0_3] 35 (0,0)) (by (with_reducible repeat (first|refine kN ?_ _|refine kD ?_|refine kA ?_ _));exact BK207.out)) : gb207 ≠ gb222))
    have n9_:=Ak ((by rw [hg];exact Nat.ne_of_gt (blk_lt (g:=gb207) (o:=.cells #[.int .i64 a0_0,.int .i64 a0_1,.int .i64 a0_2,.int .i64 a0_3] 35 (0,0)) (by (with_reducible repeat (first|refine kN ?_ _|refine kD ?_|refine kA ?_ _));exact BK207.out)) : gb222 ≠ gb207))
    have n10_:=Ak ((by rw [hg];exact Nat.ne_of_lt (blk_lt (g:=gb208) (o:=.cells #[.int .i64 a1_0,.int .i64 a1_1,.int .i64 a1_2,.int .i64 a1_3] 35 (0,0)) (by (with_reducible repeat (first|refine kN ?_ _|refine kD ?_|refine kA ?_ _));exact BK208.out)) : gb208 ≠ gb222))
    have n11_:=Ak ((by rw [hg];exact Nat.ne_of_gt (blk_lt (g:=gb208) (o:=.cells #[.int .i64 a1_0,.int .i64 a1_1,.int .i64 a1_2,.int .i64 a1_3] 35 (0,0)) (by (with_reducible repeat (first|refine kN ?_ _|refine kD ?_|refine kA ?_ _));exact BK208.out)) : gb222 ≠ gb208))
    have n12_:=Ak ((by rw [hg];exact Nat.ne_of_lt (blk_lt (g:=gb209) (o:=.cells #[.int .u64 0,.int .u64 0,.int .u64 0,.int .u64 0] 79 (0,0)) (by (with_reducible repeat (first|refine kN ?_ _|refine kD ?_|refine kA ?_ _));exact BK209.out)) : gb209 ≠ gb222))
    have n13_:=Ak ((by rw [hg];exact Nat.ne_of_gt (blk_lt (g:=gb209) (o:=.cells #[.int .u64 0,.int .u64 0,.int .u64 0,.int .u64 0] 79 (0,0)) (by (with_reducible repeat (first|refine kN ?_ _|refine kD ?_|refine kA ?_ _));exact BK209.out)) : gb222 ≠ gb209))
    have n14_:=Ak ((by rw [hg];exact Nat.ne_of_lt (blk_lt (g:=gb223) (o:=.cells #[.int .u64 0,.int .u64 0,.int .u64 0,.int .u64 0] 79 (0,0)) (by (with_reducible repeat (first|refine kN ?_ _|refine kD ?_|refine kA ?_ _));exact BK223.out)) : gb223 ≠ gb222))
    have n15_:=Ak ((by rw [hg];exact Nat.ne_of_gt (blk_lt (g:=gb223) (o:=.cells #[.int .u64 0,.int .u64 0,.int .u64 0,.int .u64 0] 79 (0,0)) (by (with_reducible repeat (first|refine kN ?_ _|refine kD ?_|refine kA ?_ _));exact BK223.out)) : gb222 ≠ gb223))
    clear BK207
    clear BK208
    clear BK209
    clear BK223
    clear HB
    have BK207:=n0_
    have BK208:=n1_
    have BK209:=n2_
    have BK223:=n3_
    have HB:=n4_
    have BK222:=n5_
    have GW222:=n6_
    have GE222:=n7_
    have NB207_222:=n8_
    have NB222_207:=n9_
    have NB208_222:=n10_
    have NB222_208:=n11_
    have NB209_222:=n12_
    have NB222_209:=n13_
    have NB223_222:=n14_
    have NB222_223:=n15_
    clear n0_ n1_ n2_ n3_ n4_ n5_ n6_ n7_ n8_ n9_ n10_ n11_ n12_ n13_ n14_ n15_
    clear hb hbox hg
    refine hK.out _ _ ⟨(kC BK207.out 0).trans rfl,(kC BK207.out 1).trans rfl,(kC BK207.out 2).trans rfl,(kC BK207.out 3).trans rfl,(kC BK208.out 0).trans rfl,(kC BK208.out 1).trans rfl,(kC BK208.out 2).trans rfl,(kC BK208.out 3).trans rfl⟩ (fun hHeld => ?_)
    clear hK K
    refine norm_ (a':=?_) ?_ ?_
    rotate_left
    ·show Act.put _ (some 5) _ = _
     simp only [Act.put,sA,sZ,sS,i64_w,i32_w]
     rfl
    exact norm_ (by first|(simp only [putAll,Act.put,sA,sZ,sS];done)|(simp only [putAll,Act.put,sA,sZ,sS];rfl)) (hJ2_3_5_6_7 (gb222,gb223) _ ⟨hHeld,(by (with_reducible repeat (first|refine kN ?_ _|refine kD ?_|refine kA ?_ _));exact BK207.out),(by (with_reducible repeat (first|refine kN ?_ _|refine kD ?_|refine kA ?_ _));exact BK208.out),(by (with_reducible repeat (first|refine kN ?_ _|refine kD ?_|refine kA ?_ _));exact BK209.out),(by (with_reducible repeat (first|refine kN ?_ _|refine kD ?_|refine kA ?_ _));exact BK222.out),(by (with_reducible repeat (first|refine kN ?_ _|refine kD ?_|refine kA ?_ _));exact BK223.out),GW222.out,GE222.out,NB207_222.out,NB222_207.out,NB208_222.out,NB222_208.out,NB209_222.out,NB222_209.out,NB223_222.out,NB222_223.out,GW223.out,GE223.out,NB207_223.out,NB223_207.out,NB208_223.out,NB223_208.out,NB209_223.out,NB223_209.out,(by repeat (first|(with_reducible first|exact HB.out|apply bA|apply bN|apply bD|refine bS ?_ GE207.out|refine bS ?_ GE208.out|refine bS ?_ GE209.out|refine bS ?_ GE223.out|refine bS ?_ GE222.out)|exact HB.out))⟩)
  ·skip
   rintro gb222 w16 ⟨hS_,h0_,h1_,h2_,h3_,h4_,h5_,h6_,h7_,h8_,h9_,h10_,h11_,h12_⟩
   have n0_ : Aside0 (w16.heap[gb207]? = some (.cells #[.int .i64 a0_0,.int .i64 a0_1,.int .i64 a0_2,.int .i64 a0_3] 35 (0,0))):=⟨h0_⟩
   have n1_ : Aside0 (w16.heap[gb208]? = some (.cells #[.int .i64 a1_0,.int .i64 a1_1,.int .i64 a1_2,.int .i64 a1_3] 35 (0,0))):=⟨h1_⟩
   have n2_ : Aside0 (w16.heap[gb209]? = some (.cells #[.int .u64 0,.int .u64 0,.int .u64 0,.int .u64 0] 79 (0,0))):=⟨h2_⟩
   have n3_ : Aside0 (w16.heap[gb222]? = some (.cells #[.int .u64 0,.int .u64 0,.int .u64 0,.int .u64 0] 79 (0,0))):=⟨h3_⟩
   have n4_ : Aside0 (w.heap.size ≤ gb222):=⟨h4_⟩
   have n5_ : Aside0 (w.heap.size ≤ gb222):=⟨h5_⟩
   have n6_ : Aside0 (gb207 ≠ gb222):=⟨h6_⟩
   have n7_ : Aside0 (gb222 ≠ gb207):=⟨h7_⟩
   have n8_ : Aside0 (gb208 ≠ gb222):=⟨h8_⟩
   have n9_ : Aside0 (gb222 ≠ gb208):=⟨h9_⟩
   have n10_ : Aside0 (gb209 ≠ gb222):=⟨h10_⟩
   have n11_ : Aside0 (gb222 ≠ gb209):=⟨h11_⟩
   have n12_ : Aside0 (Below w.heap.size w w16):=⟨h12_⟩
   clear BK207
   clear BK208
   clear BK209
   clear HB
   clear h0_ h1_ h2_ h3_ h4_ h5_ h6_ h7_ h8_ h9_ h10_ h11_ h12_
   have BK207:=n0_
   have BK208:=n1_
   have BK209:=n2_
   have BK222:=n3_
   have GW222:=n4_
   have GE222:=n5_
   have NB207_222:=n6_
   have NB222_207:=n7_
   have NB208_222:=n8_
   have NB222_208:=n9_
   have NB209_222:=n10_
   have NB222_209:=n11_
   have HB:=n12_
   clear n0_ n1_ n2_ n3_ n4_ n5_ n6_ n7_ n8_ n9_ n10_ n11_ n12_
   have hHeld : w16.cell? ⟨gb207,0,none⟩ = some (.int .i64 a0_0)∧w16.cell? ⟨gb207,1,none⟩ = some (.int .i64 a0_1)∧w16.cell? ⟨gb207,2,none⟩ = some (.int .i64 a0_2)∧w16.cell? ⟨gb207,3,none⟩ = some (.int .i64 a0_3)∧w16.cell? ⟨gb208,0,none⟩ = some (.int .i64 a1_0)∧w16.cell? ⟨gb208,1,none⟩ = some (.int .i64 a1_1)∧w16.cell? ⟨gb208,2,none⟩ = some (.int .i64 a1_2)∧w16.cell? ⟨gb208,3,none⟩ = some (.int .i64 a1_3):=hS_
   refine norm_ (a':=?_) ?_ ?_
   rotate_left
   ·simp only [putAll,Act.put,sA,sZ,sS]
    rfl
   refine one_ (i:=7) (N:=some 6) #[tt,tt,tt,tt,tt,tt,tt,tt,ff,ff] rfl rfl (one_of HT_.out (by kernel_rfl)) (by decide) (fun K hK => ?_)
   refine box_step ?hg (N:=6) ?hd (cs:=#[.int .u64 0,.int .u64 0,.int .u64 0,.int .u64 0]) (t:=79) ?hr ?_;(case hd => rfl);(case hg => rfl);(case hr => first|(go_simp;done)|(go_simp;rfl))
   intro gb223 hg w17 hbox hb
   have n0_:=Ak (kB (g:=gb207) (o:=.cells #[.int .i64 a0_0,.int .i64 a0_1,.int .i64 a0_2,.int .i64 a0_3] 35 (0,0)) (by (with_reducible repeat (first|refine kN ?_ _|refine kD ?_|refine kA ?_ _));exact BK207.out) hb)
   have n1_:=Ak (kB (g:=gb208) (o:=.cells #[.int .i64 a1_0,.int .i64 a1_1,.int .i64 a1_2,.int .i64 a1_3] 35 (0,0)) (by (with_reducible repeat (first|refine kN ?_ _|refine kD ?_|refine kA ?_ _));exact BK208.out) hb)
   have n2_:=Ak (kB (g:=gb209) (o:=.cells #[.int .u64 0,.int .u64 0,.int .u64 0,.int .u64 0] 79 (0,0)) (by (with_reducible repeat (first|refine kN ?_ _|refine kD ?_|refine kA ?_ _));exact BK209.out) hb)
   have n3_:=Ak (kB (g:=gb222) (o:=.cells #[.int .u64 0,.int .u64 0,.int .u64 0,.int .u64 0] 79 (0,0)) (by (with_reducible repeat (first|refine kN ?_ _|refine kD ?_|refine kA ?_ _));exact BK222.out) hb)
   have n4_:=Ak (below_step (by repeat (first|(with_reducible first|exact HB.out|apply bA|apply bN|apply bD|refine bS ?_ GE207.out|refine bS ?_ GE208.out|refine bS ?_ GE209.out|refine bS ?_ GE222.out)|exact HB.out)) hb)
   have n5_:=Ak (hbox)
   have n6_:=Ak ((by rw [hg];exact (below_size (by repeat (first|(with_reducible first|exact HB.out|apply bA|apply bN|apply bD|refine bS ?_ GE207.out|refine bS ?_ GE208.out|refine bS ?_ GE209.out|refine bS ?_ GE222.out)|exact HB.out))) : w.heap.size ≤ gb223))
   have n7_:=Ak ((by rw [hg];exact (below_size (by repeat (first|(with_reducible first|exact HB.out|apply bA|apply bN|apply bD|refine bS ?_ GE207.out|refine bS ?_ GE208.out|refine bS ?_ GE209.out|refine bS ?_ GE222.out)|exact HB.out))) : w.heap.size ≤ gb223))
   have n8_:=Ak ((by rw [hg];exact Nat.ne_of_lt (blk_lt (g:=gb207) (o:=.cells #[.int .i64 a0_0,.int .i64 a0_1,.int .i64 a0_2,.int .i64 a0_3] 35 (0,0)) (by (with_reducible repeat (first|refine kN ?_ _|refine kD ?_|refine kA ?_ _));exact BK207.out)) : gb207 ≠ gb223))
   have n9_:=Ak ((by rw [hg];exact Nat.ne_of_gt (blk_lt (g:=gb207) (o:=.cells #[.int .i64 a0_0,.int .i64 a0_1,.int .i64 a0_2,.int .i64 a0_3] 35 (0,0)) (by (with_reducible repeat (first|refine kN ?_ _|refine kD ?_|refine kA ?_ _));exact BK207.out)) : gb223 ≠ gb207))
   have n10_:=Ak ((by rw [hg];exact Nat.ne_of_lt (blk_lt (g:=gb208) (o:=.cells #[.int .i64 a1_0,.int .i64 a1_1,.int .i64 a1_2,.int .i64 a1_3] 35 (0,0)) (by (with_reducible repeat (first|refine kN ?_ _|refine kD ?_|refine kA ?_ _));exact BK208.out)) : gb208 ≠ gb223))
   have n11_:=Ak ((by rw [hg];exact Nat.ne_of_gt (blk_lt (g:=gb208) (o:=.cells #[.int .i64 a1_0,.int .i64 a1_1,.int .i64 a1_2,.int .i64 a1_3] 35 (0,0)) (by (with_reducible repeat (first|refine kN ?_ _|refine kD ?_|refine kA ?_ _));exact BK208.out)) : gb223 ≠ gb208))
   have n12_:=Ak ((by rw [hg];exact Nat.ne_of_lt (blk_lt (g:=gb209) (o:=.cells #[.int .u64 0,.int .u64 0,.int .u64 0,.int .u64 0] 79 (0,0)) (by (with_reducible repeat (first|refine kN ?_ _|refine kD ?_|refine kA ?_ _));exact BK209.out)) : gb209 ≠ gb223))
   have n13_:=Ak ((by rw [hg];exact Nat.ne_of_gt (blk_lt (g:=gb209) (o:=.cells #[.int .u64 0,.int .u64 0,.int .u64 0,.int .u64 0] 79 (0,0)) (by (with_reducible repeat (first|refine kN ?_ _|refine kD ?_|refine kA ?_ _));exact BK209.out)) : gb223 ≠ gb209))
   have n14_:=Ak ((by rw [hg];exact Nat.ne_of_lt (blk_lt (g:=gb222) (o:=.cells #[.int .u64 0,.int .u64 0,.int .u64 0,.int .u64 0] 79 (0,0)) (by (with_reducible repeat (first|refine kN ?_ _|refine kD ?_|refine kA ?_ _));exact BK222.out)) : gb222 ≠ gb223))
   have n15_:=Ak ((by rw [hg];exact Nat.ne_of_gt (blk_lt (g:=gb222) (o:=.cells #[.int .u64 0,.int .u64 0,.int .u64 0,.int .u64 0] 79 (0,0)) (by (with_reducible repeat (first|refine kN ?_ _|refine kD ?_|refine kA ?_ _));exact BK222.out)) : gb223 ≠ gb222))
   clear BK207
   clear BK208
   clear BK209
   clear BK222
   clear HB
   have BK207:=n0_
   have BK208:=n1_
   have BK209:=n2_
   have BK222:=n3_
   have HB:=n4_
   have BK223:=n5_
   have GW223:=n6_
   have GE223:=n7_
   have NB207_223:=n8_
   have NB223_207:=n9_
   have NB208_223:=n10_
   have NB223_208:=n11_
   have NB209_223:=n12_
   have NB223_209:=n13_
   have NB222_223:=n14_
   have NB223_222:=n15_
   clear n0_ n1_ n2_ n3_ n4_ n5_ n6_ n7_ n8_ n9_ n10_ n11_ n12_ n13_ n14_ n15_
   clear hb hbox hg
   refine hK.out _ _ ⟨(kC BK207.out 0).trans rfl,(kC BK207.out 1).trans rfl,(kC BK207.out 2).trans rfl,(kC BK207.out 3).trans rfl,(kC BK208.out 0).trans rfl,(kC BK208.out 1).trans rfl,(kC BK208.out 2).trans rfl,(kC BK208.out 3).trans rfl⟩ (fun hHeld => ?_)
   clear hK K
   refine norm_ (a':=?_) ?_ ?_
   rotate_left
   ·show Act.put _ (some 6) _ = _
    simp only [Act.put,sA,sZ,sS,i64_w,i32_w]
    rfl
   exact norm_ (by first|(simp only [putAll,Act.put,sA,sZ,sS];done)|(simp only [putAll,Act.put,sA,sZ,sS];rfl)) (hJ2_3_5_6_7 (gb222,gb223) _ ⟨hHeld,(by (with_reducible repeat (first|refine kN ?_ _|refine kD ?_|refine kA ?_ _));exact BK207.out),(by (with_reducible repeat (first|refine kN ?_ _|refine kD ?_|refine kA ?_ _));exact BK208.out),(by (with_reducible repeat (first|refine kN ?_ _|refine kD ?_|refine kA ?_ _));exact BK209.out),(by (with_reducible repeat (first|refine kN ?_ _|refine kD ?_|refine kA ?_ _));exact BK222.out),(by (with_reducible repeat (first|refine kN ?_ _|refine kD ?_|refine kA ?_ _));exact BK223.out),GW222.out,GE222.out,NB207_222.out,NB222_207.out,NB208_222.out,NB222_208.out,NB209_222.out,NB222_209.out,NB223_222.out,NB222_223.out,GW223.out,GE223.out,NB207_223.out,NB223_207.out,NB208_223.out,NB223_208.out,NB209_223.out,NB223_209.out,(by repeat (first|(with_reducible first|exact HB.out|apply bA|apply bN|apply bD|refine bS ?_ GE207.out|refine bS ?_ GE208.out|refine bS ?_ GE209.out|refine bS ?_ GE222.out|refine bS ?_ GE223.out)|exact HB.out))⟩)
 rintro ⟨gb222,gb223⟩ w17 ⟨hS_,h0_,h1_,h2_,h3_,h4_,h5_,h6_,h7_,h8_,h9_,h10_,h11_,h12_,h13_,h14_,h15_,h16_,h17_,h18_,h19_,h20_,h21_,h22_,h23_⟩
 have n0_ : Aside0 (w17.heap[gb207]? = some (.cells #[.int .i64 a0_0,.int .i64 a0_1,.int .i64 a0_2,.int .i64 a0_3] 35 (0,0))):=⟨h0_⟩
 have n1_ : Aside0 (w17.heap[gb208]? = some (.cells #[.int .i64 a1_0,.int .i64 a1_1,.int .i64 a1_2,.int .i64 a1_3] 35 (0,0))):=⟨h1_⟩
 have n2_ : Aside0 (w17.heap[gb209]? = some (.cells #[.int .u64 0,.int .u64 0,.int .u64 0,.int .u64 0] 79 (0,0))):=⟨h2_⟩
 have n3_ : Aside0 (w17.heap[gb222]? = some (.cells #[.int .u64 0,.int .u64 0,.int .u64 0,.int .u64 0] 79 (0,0))):=⟨h3_⟩
 have n4_ : Aside0 (w17.heap[gb223]? = some (.cells #[.int .u64 0,.int .u64 0,.int .u64 0,.int .u64 0] 79 (0,0))):=⟨h4_⟩
 have n5_ : Aside0 (w.heap.size ≤ gb222):=⟨h5_⟩
 have n6_ : Aside0 (w.heap.size ≤ gb222):=⟨h6_⟩
 have n7_ : Aside0 (gb207 ≠ gb222):=⟨h7_⟩
 have n8_ : Aside0 (gb222 ≠ gb207):=⟨h8_⟩
 have n9_ : Aside0 (gb208 ≠ gb222):=⟨h9_⟩
 have n10_ : Aside0 (gb222 ≠ gb208):=⟨h10_⟩
 have n11_ : Aside0 (gb209 ≠ gb222):=⟨h11_⟩
 have n12_ : Aside0 (gb222 ≠ gb209):=⟨h12_⟩
 have n13_ : Aside0 (gb223 ≠ gb222):=⟨h13_⟩
 have n14_ : Aside0 (gb222 ≠ gb223):=⟨h14_⟩
 have n15_ : Aside0 (w.heap.size ≤ gb223):=⟨h15_⟩
 have n16_ : Aside0 (w.heap.size ≤ gb223):=⟨h16_⟩
 have n17_ : Aside0 (gb207 ≠ gb223):=⟨h17_⟩
 have n18_ : Aside0 (gb223 ≠ gb207):=⟨h18_⟩
 have n19_ : Aside0 (gb208 ≠ gb223):=⟨h19_⟩
 have n20_ : Aside0 (gb223 ≠ gb208):=⟨h20_⟩
 have n21_ : Aside0 (gb209 ≠ gb223):=⟨h21_⟩
 have n22_ : Aside0 (gb223 ≠ gb209):=⟨h22_⟩
 have n23_ : Aside0 (Below w.heap.size w w17):=⟨h23_⟩
 clear BK207
 clear BK208
 clear BK209
 clear HB
 clear h0_ h1_ h2_ h3_ h4_ h5_ h6_ h7_ h8_ h9_ h10_ h11_ h12_ h13_ h14_ h15_ h16_ h17_ h18_ h19_ h20_ h21_ h22_ h23_
 have BK207:=n0_
 have BK208:=n1_
 have BK209:=n2_
 have BK222:=n3_
 have BK223:=n4_
 have GW222:=n5_
 have GE222:=n6_
 have NB207_222:=n7_
 have NB222_207:=n8_
 have NB208_222:=n9_
 have NB222_208:=n10_
 have NB209_222:=n11_
 have NB222_209:=n12_
 have NB223_222:=n13_
 have NB222_223:=n14_
 have GW223:=n15_
 have GE223:=n16_
 have NB207_223:=n17_
 have NB223_207:=n18_
 have NB208_223:=n19_
 have NB223_208:=n20_
 have NB209_223:=n21_
 have NB223_209:=n22_
 have HB:=n23_
 clear n0_ n1_ n2_ n3_ n4_ n5_ n6_ n7_ n8_ n9_ n10_ n11_ n12_ n13_ n14_ n15_ n16_ n17_ n18_ n19_ n20_ n21_ n22_ n23_
 have hHeld : w17.cell? ⟨gb207,0,none⟩ = some (.int .i64 a0_0)∧w17.cell? ⟨gb207,1,none⟩ = some (.int .i64 a0_1)∧w17.cell? ⟨gb207,2,none⟩ = some (.int .i64 a0_2)∧w17.cell? ⟨gb207,3,none⟩ = some (.int .i64 a0_3)∧w17.cell? ⟨gb208,0,none⟩ = some (.int .i64 a1_0)∧w17.cell? ⟨gb208,1,none⟩ = some (.int .i64 a1_1)∧w17.cell? ⟨gb208,2,none⟩ = some (.int .i64 a1_2)∧w17.cell? ⟨gb208,3,none⟩ = some (.int .i64 a1_3):=hS_
 refine norm_ (a':=?_) ?_ ?_
 rotate_left
 ·simp only [putAll,Act.put,sA,sZ,sS]
  rfl
 refine one_ (i:=8) (N:=none) #[tt,tt,tt,tt,tt,tt,tt,tt,tt,ff] rfl rfl (one_of HT_.out (by kernel_rfl)) (by decide) (fun K hK => ?_)
 have hs18 : w17.cell? ⟨gb222,0,none⟩ = some (.int .u64 0):=(kC BK222.out 0).trans rfl
 have hfs18:=blk_frozen BK222.out 0
 have hns18_0:=NB207_222.out
 have hns18_1:=NB208_222.out
 have hns18_2:=NB209_222.out
 have hns18_4:=NB223_222.out
 have hms18_0:=NB222_207.out
 have hms18_1:=NB222_208.out
 have hms18_2:=NB222_209.out
 have hms18_4:=NB222_223.out
 have hs19 : w17.cell? ⟨gb222,1,none⟩ = some (.int .u64 0):=(kC BK222.out 1).trans rfl
 have hfs19:=blk_frozen BK222.out 1
 have hns19_0:=NB207_222.out
 have hns19_1:=NB208_222.out
 have hns19_2:=NB209_222.out
 have hns19_4:=NB223_222.out
 have hms19_0:=NB222_207.out
 have hms19_1:=NB222_208.out
 have hms19_2:=NB222_209.out
 have hms19_4:=NB222_223.out
 have hs20 : w17.cell? ⟨gb222,2,none⟩ = some (.int .u64 0):=(kC BK222.out 2).trans rfl
 have hfs20:=blk_frozen BK222.out 2
 have hns20_0:=NB207_222.out
 have hns20_1:=NB208_222.out
 have hns20_2:=NB209_222.out
 have hns20_4:=NB223_222.out
 have hms20_0:=NB222_207.out
 have hms20_1:=NB222_208.out
 have hms20_2:=NB222_209.out
 have hms20_4:=NB222_223.out
 have hs21 : w17.cell? ⟨gb222,3,none⟩ = some (.int .u64 0):=(kC BK222.out 3).trans rfl
 have hfs21:=blk_frozen BK222.out 3
 have hns21_0:=NB207_222.out
 have hns21_1:=NB208_222.out
 have hns21_2:=NB209_222.out
 have hns21_4:=NB223_222.out
 have hms21_0:=NB222_207.out
 have hms21_1:=NB222_208.out
 have hms21_2:=NB222_209.out
 have hms21_4:=NB222_223.out
 refine skip_ (w1:=?_) (by rfl) rfl ?_ ?_
 rotate_left
 ·go_simp
  rfl
 refine hK.out _ _ ⟨((cell_far (p:=⟨gb222,_,none⟩) NB207_222.out _).trans (((cell_far (p:=⟨gb222,_,none⟩) NB207_222.out _).trans (((cell_far (p:=⟨gb222,_,none⟩) NB207_222.out _).trans (((cell_far (p:=⟨gb222,_,none⟩) NB207_222.out _).trans (hHeld.1)))))))),((cell_far (p:=⟨gb222,_,none⟩) NB207_222.out _).trans (((cell_far (p:=⟨gb222,_,none⟩) NB207_222.out _).trans (((cell_far (p:=⟨gb222,_,none⟩) NB207_222.out _).trans (((cell_far (p:=⟨gb222,_,none⟩) NB207_222.out _).trans (hHeld.2.1)))))))),((cell_far (p:=⟨gb222,_,none⟩) NB207_222.out _).trans (((cell_far (p:=⟨gb222,_,none⟩) NB207_222.out _).trans (((cell_far (p:=⟨gb222,_,none⟩) NB207_222.out _).trans (((cell_far (p:=⟨gb222,_,none⟩) NB207_222.out _).trans (hHeld.2.2.1)))))))),((cell_far (p:=⟨gb222,_,none⟩) NB207_222.out _).trans (((cell_far (p:=⟨gb222,_,none⟩) NB207_222.out _).trans (((cell_far (p:=⟨gb222,_,none⟩) NB207_222.out _).trans (((cell_far (p:=⟨gb222,_,none⟩) NB207_222.out _).trans (hHeld.2.2.2.1)))))))),((cell_far (p:=⟨gb222,_,none⟩) NB208_222.out _).trans (((cell_far (p:=⟨gb222,_,none⟩) NB208_222.out _).trans (((cell_far (p:=⟨gb222,_,none⟩) NB208_222.out _).trans (((cell_far (p:=⟨gb222,_,none⟩) NB208_222.out _).trans (hHeld.2.2.2.2.1)))))))),((cell_far (p:=⟨gb222,_,none⟩) NB208_222.out _).trans (((cell_far (p:=⟨gb222,_,none⟩) NB208_222.out _).trans (((cell_far (p:=⟨gb222,_,none⟩) NB208_222.out _).trans (((cell_far (p:=⟨gb222,_,none⟩) NB208_222.out _).trans (hHeld.2.2.2.2.2.1)))))))),((cell_far (p:=⟨gb222,_,none⟩) NB208_222.out _).trans (((cell_far (p:=⟨gb222,_,none⟩) NB208_222.out _).trans (((cell_far (p:=⟨gb222,_,none⟩) NB208_222.out _).trans (((cell_far (p:=⟨gb222,_,none⟩) NB208_222.out _).trans (hHeld.2.2.2.2.2.2.1)))))))),((cell_far (p:=⟨gb222,_,none⟩) NB208_222.out _).trans (((cell_far (p:=⟨gb222,_,none⟩) NB208_222.out _).trans (((cell_far (p:=⟨gb222,_,none⟩) NB208_222.out _).trans (((cell_far (p:=⟨gb222,_,none⟩) NB208_222.out _).trans (hHeld.2.2.2.2.2.2.2))))))))⟩ (fun hHeld => ?_)
 clear hK K
 refine one_ (i:=9) (N:=none) #[tt,tt,tt,tt,tt,tt,tt,tt,tt,tt] rfl rfl (one_of HT_.out (by kernel_rfl)) (by decide) (fun K hK => ?_)
 have hs22 : w17.cell? ⟨gb223,0,none⟩ = some (.int .u64 0):=(kC BK223.out 0).trans rfl
 have hfs22:=blk_frozen BK223.out 0
 have hns22_0:=NB207_223.out
 have hns22_1:=NB208_223.out
 have hns22_2:=NB209_223.out
 have hns22_3:=NB222_223.out
 have hms22_0:=NB223_207.out
 have hms22_1:=NB223_208.out
 have hms22_2:=NB223_209.out
 have hms22_3:=NB223_222.out
 have hs23 : w17.cell? ⟨gb223,1,none⟩ = some (.int .u64 0):=(kC BK223.out 1).trans rfl
 have hfs23:=blk_frozen BK223.out 1
 have hns23_0:=NB207_223.out
 have hns23_1:=NB208_223.out
 have hns23_2:=NB209_223.out
 have hns23_3:=NB222_223.out
 have hms23_0:=NB223_207.out
 have hms23_1:=NB223_208.out
 have hms23_2:=NB223_209.out
 have hms23_3:=NB223_222.out
 have hs24 : w17.cell? ⟨gb223,2,none⟩ = some (.int .u64 0):=(kC BK223.out 2).trans rfl
 have hfs24:=blk_frozen BK223.out 2
 have hns24_0:=NB207_223.out
 have hns24_1:=NB208_223.out
 have hns24_2:=NB209_223.out
 have hns24_3:=NB222_223.out
 have hms24_0:=NB223_207.out
 have hms24_1:=NB223_208.out
 have hms24_2:=NB223_209.out
 have hms24_3:=NB223_222.out
 have hs25 : w17.cell? ⟨gb223,3,none⟩ = some (.int .u64 0):=(kC BK223.out 3).trans rfl
 have hfs25:=blk_frozen BK223.out 3
 have hns25_0:=NB207_223.out
 have hns25_1:=NB208_223.out
 have hns25_2:=NB209_223.out
 have hns25_3:=NB222_223.out
 have hms25_0:=NB223_207.out
 have hms25_1:=NB223_208.out
 have hms25_2:=NB223_209.out
 have hms25_3:=NB223_222.out
 refine skip_ (w1:=?_) (by rfl) rfl ?_ ?_
 rotate_left
 ·go_simp
  rfl
 refine hK.out _ _ ⟨((cell_far (p:=⟨gb223,_,none⟩) NB207_223.out _).trans (((cell_far (p:=⟨gb223,_,none⟩) NB207_223.out _).trans (((cell_far (p:=⟨gb223,_,none⟩) NB207_223.out _).trans (((cell_far (p:=⟨gb223,_,none⟩) NB207_223.out _).trans (hHeld.1)))))))),((cell_far (p:=⟨gb223,_,none⟩) NB207_223.out _).trans (((cell_far (p:=⟨gb223,_,none⟩) NB207_223.out _).trans (((cell_far (p:=⟨gb223,_,none⟩) NB207_223.out _).trans (((cell_far (p:=⟨gb223,_,none⟩) NB207_223.out _).trans (hHeld.2.1)))))))),((cell_far (p:=⟨gb223,_,none⟩) NB207_223.out _).trans (((cell_far (p:=⟨gb223,_,none⟩) NB207_223.out _).trans (((cell_far (p:=⟨gb223,_,none⟩) NB207_223.out _).trans (((cell_far (p:=⟨gb223,_,none⟩) NB207_223.out _).trans (hHeld.2.2.1)))))))),((cell_far (p:=⟨gb223,_,none⟩) NB207_223.out _).trans (((cell_far (p:=⟨gb223,_,none⟩) NB207_223.out _).trans (((cell_far (p:=⟨gb223,_,none⟩) NB207_223.out _).trans (((cell_far (p:=⟨gb223,_,none⟩) NB207_223.out _).trans (hHeld.2.2.2.1)))))))),((cell_far (p:=⟨gb223,_,none⟩) NB208_223.out _).trans (((cell_far (p:=⟨gb223,_,none⟩) NB208_223.out _).trans (((cell_far (p:=⟨gb223,_,none⟩) NB208_223.out _).trans (((cell_far (p:=⟨gb223,_,none⟩) NB208_223.out _).trans (hHeld.2.2.2.2.1)))))))),((cell_far (p:=⟨gb223,_,none⟩) NB208_223.out _).trans (((cell_far (p:=⟨gb223,_,none⟩) NB208_223.out _).trans (((cell_far (p:=⟨gb223,_,none⟩) NB208_223.out _).trans (((cell_far (p:=⟨gb223,_,none⟩) NB208_223.out _).trans (hHeld.2.2.2.2.2.1)))))))),((cell_far (p:=⟨gb223,_,none⟩) NB208_223.out _).trans (((cell_far (p:=⟨gb223,_,none⟩) NB208_223.out _).trans (((cell_far (p:=⟨gb223,_,none⟩) NB208_223.out _).trans (((cell_far (p:=⟨gb223,_,none⟩) NB208_223.out _).trans (hHeld.2.2.2.2.2.2.1)))))))),((cell_far (p:=⟨gb223,_,none⟩) NB208_223.out _).trans (((cell_far (p:=⟨gb223,_,none⟩) NB208_223.out _).trans (((cell_far (p:=⟨gb223,_,none⟩) NB208_223.out _).trans (((cell_far (p:=⟨gb223,_,none⟩) NB208_223.out _).trans (hHeld.2.2.2.2.2.2.2))))))))⟩ (fun hHeld => ?_)
 clear hK K
 refine done_ (done_of HT_.out (by kernel_rfl)) ?_
 try go_wp2_with (first|((with_reducible refine gate_dst (N:=7) rfl ?_);refine box_event ?hg (N:=7) ?hd (cs:=#[.int .u64 0,.int .u64 0,.int .u64 0,.int .u64 0]) (t:=79) ?hr ?_;(case hd => rfl);(case hg => rfl);(case hr => first|(go_simp;done)|(go_simp;rfl));intro gb224 hg w26 hbox hb;have n0_:=Ak (kB (g:=gb207) (o:=.cells #[.int .i64 a0_0,.int .i64 a0_1,.int .i64 a0_2,.int .i64 a0_3] 35 (0,0)) (by (with_reducible repeat (first|refine kN ?_ _|refine kD ?_|refine kA ?_ _));refine blk_far ?_ NB207_223.out _;(with_reducible repeat (first|refine kN ?_ _|refine kD ?_|refine kA ?_ _));refine blk_far ?_ NB207_223.out _;(with_reducible repeat (first|refine kN ?_ _|refine kD ?_|refine kA ?_ _));refine blk_far ?_ NB207_223.out _;(with_reducible repeat (first|refine kN ?_ _|refine kD ?_|refine kA ?_ _));refine blk_far ?_ NB207_223.out _;(with_reducible repeat (first|refine kN ?_ _|refine kD ?_|refine kA ?_ _));refine blk_far ?_ NB207_222.out _;(with_reducible repeat (first|refine kN ?_ _|refine kD ?_|refine kA ?_ _));refine blk_far ?_ NB207_222.out _;(with_reducible repeat (first|refine kN ?_ _|refine kD ?_|refine kA ?_ _));refine blk_far ?_ NB207_222.out _;(with_reducible repeat (first|refine kN ?_ _|refine kD ?_|refine kA ?_ _));refine blk_far ?_ NB207_222.out _;(with_reducible repeat (first|refine kN ?_ _|refine kD ?_|refine kA ?_ _));exact BK207.out) hb);have n1_:=Ak (kB (g:=gb208) (o:=.cells #[.int .i64 a1_0,.int .i64 a1_1,.int .i64 a1_2,.int .i64 a1_3] 35 (0,0)) (by (with_reducible repeat (first|refine kN ?_ _|refine kD ?_|refine kA ?_ _));refine blk_far ?_ NB208_223.out _;(with_reducible repeat (first|refine kN ?_ _|refine kD ?_|refine kA ?_ _));refine blk_far ?_ NB208_223.out _;(with_reducible repeat (first|refine kN ?_ _|refine kD ?_|refine kA ?_ _));refine blk_far ?_ NB208_223.out _;(with_reducible repeat (first|refine kN ?_ _|refine kD ?_|refine kA ?_ _));refine blk_far ?_ NB208_223.out _;(with_reducible repeat (first|refine kN ?_ _|refine kD ?_|refine kA ?_ _));refine blk_far ?_ NB208_222.out _;(with_reducible repeat (first|refine kN ?_ _|refine kD ?_|refine kA ?_ _));refine blk_far ?_ NB208_222.out _;(with_reducible repeat (first|refine kN ?_ _|refine kD ?_|refine kA ?_ _));refine blk_far ?_ NB208_222.out _;(with_reducible repeat (first|refine kN ?_ _|refine kD ?_|refine kA ?_ _));refine blk_far ?_ NB208_222.out _;(with_reducible repeat (first|refine kN ?_ _|refine kD ?_|refine kA ?_ _));exact BK208.out) hb);have n2_:=Ak (kB (g:=gb209) (o:=.cells #[.int .u64 0,.int .u64 0,.int .u64 0,.int .u64 0] 79 (0,0)) (by (with_reducible repeat (first|refine kN ?_ _|refine kD ?_|refine kA ?_ _));refine blk_far ?_ NB209_223.out _;(with_reducible repeat (first|refine kN ?_ _|refine kD ?_|refine kA ?_ _));refine blk_far ?_ NB209_223.out _;(with_reducible repeat (first|refine kN ?_ _|refine kD ?_|refine kA ?_ _));refine blk_far ?_ NB209_223.out _;(with_reducible repeat (first|refine kN ?_ _|refine kD ?_|refine kA ?_ _));refine blk_far ?_ NB209_223.out _;(with_reducible repeat (first|refine kN ?_ _|refine kD ?_|refine kA ?_ _));refine blk_far ?_ NB209_222.out _;(with_reducible repeat (first|refine kN ?_ _|refine kD ?_|refine kA ?_ _));refine blk_far ?_ NB209_222.out _;(with_reducible repeat (first|refine kN ?_ _|refine kD ?_|refine kA ?_ _));refine blk_far ?_ NB209_222.out _;(with_reducible repeat (first|refine kN ?_ _|refine kD ?_|refine kA ?_ _));refine blk_far ?_ NB209_222.out _;(with_reducible repeat (first|refine kN ?_ _|refine kD ?_|refine kA ?_ _));exact BK209.out) hb);have n3_:=Ak (kB (g:=gb222) (o:=.cells #[.int .u64 t214,.int .u64 t215,.int .u64 t216,.int .u64 t217] 79 (0,0)) (by (with_reducible repeat (first|refine kN ?_ _|refine kD ?_|refine kA ?_ _));refine blk_far ?_ NB222_223.out _;(with_reducible repeat (first|refine kN ?_ _|refine kD ?_|refine kA ?_ _));refine blk_far ?_ NB222_223.out _;(with_reducible repeat (first|refine kN ?_ _|refine kD ?_|refine kA ?_ _));refine blk_far ?_ NB222_223.out _;(with_reducible repeat (first|refine kN ?_ _|refine kD ?_|refine kA ?_ _));refine blk_far ?_ NB222_223.out _;(with_reducible repeat (first|refine kN ?_ _|refine kD ?_|refine kA ?_ _));refine blk_put (cs:=#[.int .u64 t214,.int .u64 t215,.int .u64 t216,.int .u64 0]) ?_ 3 _ rfl;(with_reducible repeat (first|refine kN ?_ _|refine kD ?_|refine kA ?_ _));refine blk_put (cs:=#[.int .u64 t214,.int .u64 t215,.int .u64 0,.int .u64 0]) ?_ 2 _ rfl;(with_reducible repeat (first|refine kN ?_ _|refine kD ?_|refine kA ?_ _));refine blk_put (cs:=#[.int .u64 t214,.int .u64 0,.int .u64 0,.int .u64 0]) ?_ 1 _ rfl;(with_reducible repeat (first|refine kN ?_ _|refine kD ?_|refine kA ?_ _));refine blk_put (cs:=#[.int .u64 0,.int .u64 0,.int .u64 0,.int .u64 0]) ?_ 0 _ rfl;(with_reducible repeat (first|refine kN ?_ _|refine kD ?_|refine kA ?_ _));exact BK222.out) hb);have n4_:=Ak (kB (g:=gb223) (o:=.cells #[.int .u64 t218,.int .u64 t219,.int .u64 t220,.int .u64 t221] 79 (0,0)) (by (with_reducible repeat (first|refine kN ?_ _|refine kD ?_|refine kA ?_ _));refine blk_put (cs:=#[.int .u64 t218,.int .u64 t219,.int .u64 t220,.int .u64 0]) ?_ 3 _ rfl;(with_reducible repeat (first|refine kN ?_ _|refine kD ?_|refine kA ?_ _));refine blk_put (cs:=#[.int .u64 t218,.int .u64 t219,.int .u64 0,.int .u64 0]) ?_ 2 _ rfl;(with_reducible repeat (first|refine kN ?_ _|refine kD ?_|refine kA ?_ _));refine blk_put (cs:=#[.int .u64 t218,.int .u64 0,.int .u64 0,.int .u64 0]) ?_ 1 _ rfl;(with_reducible repeat (first|refine kN ?_ _|refine kD ?_|refine kA ?_ _));refine blk_put (cs:=#[.int .u64 0,.int .u64 0,.int .u64 0,.int .u64 0]) ?_ 0 _ rfl;(with_reducible repeat (first|refine kN ?_ _|refine kD ?_|refine kA ?_ _));refine blk_far ?_ NB223_222.out _;(with_reducible repeat (first|refine kN ?_ _|refine kD ?_|refine kA ?_ _));refine blk_far ?_ NB223_222.out _;(with_reducible repeat (first|refine kN ?_ _|refine kD ?_|refine kA ?_ _));refine blk_far ?_ NB223_222.out _;(with_reducible repeat (first|refine kN ?_ _|refine kD ?_|refine kA ?_ _));refine blk_far ?_ NB223_222.out _;(with_reducible repeat (first|refine kN ?_ _|refine kD ?_|refine kA ?_ _));exact BK223.out) hb);have n5_:=Ak (below_step (by repeat (first|(with_reducible first|exact HB.out|apply bA|apply bN|apply bD|refine bS ?_ GE207.out|refine bS ?_ GE208.out|refine bS ?_ GE209.out|refine bS ?_ GE222.out|refine bS ?_ GE223.out)|exact HB.out)) hb);have n6_:=Ak (hbox);have n7_:=Ak ((by rw [hg];exact (below_size (by repeat (first|(with_reducible first|exact HB.out|apply bA|apply bN|apply bD|refine bS ?_ GE207.out|refine bS ?_ GE208.out|refine bS ?_ GE209.out|refine bS ?_ GE222.out|refine bS ?_ GE223.out)|exact HB.out))) : w.heap.size ≤ gb224));have n8_:=Ak ((by rw [hg];exact (below_size (by repeat (first|(with_reducible first|exact HB.out|apply bA|apply bN|apply bD|refine bS ?_ GE207.out|refine bS ?_ GE208.out|refine bS ?_ GE209.out|refine bS ?_ GE222.out|refine bS ?_ GE223.out)|exact HB.out))) : w.heap.size ≤ gb224));have n9_:=Ak ((by rw [hg];exact Nat.ne_of_lt (blk_lt (g:=gb207) (o:=.cells #[.int .i64 a0_0,.int .i64 a0_1,.int .i64 a0_2,.int .i64 a0_3] 35 (0,0)) (by (with_reducible repeat (first|refine kN ?_ _|refine kD ?_|refine kA ?_ _));refine blk_far ?_ NB207_223.out _;(with_reducible repeat (first|refine kN ?_ _|refine kD ?_|refine kA ?_ _));refine blk_far ?_ NB207_223.out _;(with_reducible repeat (first|refine kN ?_ _|refine kD ?_|refine kA ?_ _));refine blk_far ?_ NB207_223.out _;(with_reducible repeat (first|refine kN ?_ _|refine kD ?_|refine kA ?_ _));refine blk_far ?_ NB207_223.out _;(with_reducible repeat (first|refine kN ?_ _|refine kD ?_|refine kA ?_ _));refine blk_far ?_ NB207_222.out _;(with_reducible repeat (first|refine kN ?_ _|refine kD ?_|refine kA ?_ _));refine blk_far ?_ NB207_222.out _;(with_reducible repeat (first|refine kN ?_ _|refine kD ?_|refine kA ?_ _));refine blk_far ?_ NB207_222.out _;(with_reducible repeat (first|refine kN ?_ _|refine kD ?_|refine kA ?_ _));refine blk_far ?_ NB207_222.out _;(with_reducible repeat (first|refine kN ?_ _|refine kD ?_|refine kA ?_ _));exact BK207.out)) : gb207 ≠ gb224));have n10_:=Ak ((by rw [hg];exact Nat.ne_of_gt (blk_lt (g:=gb207) (o:=.cells #[.int .i64 a0_0,.int .i64 a0_1,.int .i64 a0_2,.int .i64 a0_3] 35 (0,0)) (by (with_reducible repeat (first|refine kN ?_ _|refine kD ?_|refine kA ?_ _));refine blk_far ?_ NB207_223.out _;(with_reducible repeat (first|refine kN ?_ _|refine kD ?_|refine kA ?_ _));refine blk_far ?_ NB207_223.out _;(with_reducible repeat (first|refine kN ?_ _|refine kD ?_|refine kA ?_ _));refine blk_far ?_ NB207_223.out _;(with_reducible repeat (first|refine kN ?_ _|refine kD ?_|refine kA ?_ _));refine blk_far ?_ NB207_223.out _;(with_reducible repeat (first|refine kN ?_ _|refine kD ?_|refine kA ?_ _));refine blk_far ?_ NB207_222.out _;(with_reducible repeat (first|refine kN ?_ _|refine kD ?_|refine kA ?_ _));refine blk_far ?_ NB207_222.out _;(with_reducible repeat (first|refine kN ?_ _|refine kD ?_|refine kA ?_ _));refine blk_far ?_ NB207_222.out _;(with_reducible repeat (first|refine kN ?_ _|refine kD ?_|refine kA ?_ _));refine blk_far ?_ NB207_222.out _;(with_reducible repeat (first|refine kN ?_ _|refine kD ?_|refine kA ?_ _));exact BK207.out)) : gb224 ≠ gb207));have n11_:=Ak ((by rw [hg];exact Nat.ne_of_lt (blk_lt (g:=gb208) (o:=.cells #[.int .i64 a1_0,.int .i64 a1_1,.int .i64 a1_2,.int .i64 a1_3] 35 (0,0)) (by (with_reducible repeat (first|refine kN ?_ _|refine kD ?_|refine kA ?_ _));refine blk_far ?_ NB208_223.out _;(with_reducible repeat (first|refine kN ?_ _|refine kD ?_|refine kA ?_ _));refine blk_far ?_ NB208_223.out _;(with_reducible repeat (first|refine kN ?_ _|refine kD ?_|refine kA ?_ _));refine blk_far ?_ NB208_223.out _;(with_reducible repeat (first|refine kN ?_ _|refine kD ?_|refine kA ?_ _));refine blk_far ?_ NB208_223.out _;(with_reducible repeat (first|refine kN ?_ _|refine kD ?_|refine kA ?_ _));refine blk_far ?_ NB208_222.out _;(with_reducible repeat (first|refine kN ?_ _|refine kD ?_|refine kA ?_ _));refine blk_far ?_ NB208_222.out _;(with_reducible repeat (first|refine kN ?_ _|refine kD ?_|refine kA ?_ _));refine blk_far ?_ NB208_222.out _;(with_reducible repeat (first|refine kN ?_ _|refine kD ?_|refine kA ?_ _));refine blk_far ?_ NB208_222.out _;(with_reducible repeat (first|refine kN ?_ _|refine kD ?_|refine kA ?_ _));exact BK208.out)) : gb208 ≠ gb224));have n12_:=Ak ((by rw [hg];exact Nat.ne_of_gt (blk_lt (g:=gb208) (o:=.cells #[.int .i64 a1_0,.int .i64 a1_1,.int .i64 a1_2,.int .i64 a1_3] 35 (0,0)) (by (with_reducible repeat (first|refine kN ?_ _|refine kD ?_|refine kA ?_ _));refine blk_far ?_ NB208_223.out _;(with_reducible repeat (first|refine kN ?_ _|refine kD ?_|refine kA ?_ _));refine blk_far ?_ NB208_223.out _;(with_reducible repeat (first|refine kN ?_ _|refine kD ?_|refine kA ?_ _));refine blk_far ?_ NB208_223.out _;(with_reducible repeat (first|refine kN ?_ _|refine kD ?_|refine kA ?_ _));refine blk_far ?_ NB208_223.out _;(with_reducible repeat (first|refine kN ?_ _|refine kD ?_|refine kA ?_ _));refine blk_far ?_ NB208_222.out _;(with_reducible repeat (first|refine kN ?_ _|refine kD ?_|refine kA ?_ _));refine blk_far ?_ NB208_222.out _;(with_reducible repeat (first|refine kN ?_ _|refine kD ?_|refine kA ?_ _));refine blk_far ?_ NB208_222.out _;(with_reducible repeat (first|refine kN ?_ _|refine kD ?_|refine kA ?_ _));refine blk_far ?_ NB208_222.out _;(with_reducible repeat (first|refine kN ?_ _|refine kD ?_|refine kA ?_ _));exact BK208.out)) : gb224 ≠ gb208));have n13_:=Ak ((by rw [hg];exact Nat.ne_of_lt (blk_lt (g:=gb209) (o:=.cells #[.int .u64 0,.int .u64 0,.int .u64 0,.int .u64 0] 79 (0,0)) (by (with_reducible repeat (first|refine kN ?_ _|refine kD ?_|refine kA ?_ _));refine blk_far ?_ NB209_223.out _;(with_reducible repeat (first|refine kN ?_ _|refine kD ?_|refine kA ?_ _));refine blk_far ?_ NB209_223.out _;(with_reducible repeat (first|refine kN ?_ _|refine kD ?_|refine kA ?_ _));refine blk_far ?_ NB209_223.out _;(with_reducible repeat (first|refine kN ?_ _|refine kD ?_|refine kA ?_ _));refine blk_far ?_ NB209_223.out _;(with_reducible repeat (first|refine kN ?_ _|refine kD ?_|refine kA ?_ _));refine blk_far ?_ NB209_222.out _;(with_reducible repeat (first|refine kN ?_ _|refine kD ?_|refine kA ?_ _));refine blk_far ?_ NB209_222.out _;(with_reducible repeat (first|refine kN ?_ _|refine kD ?_|refine kA ?_ _));refine blk_far ?_ NB209_222.out _;(with_reducible repeat (first|refine kN ?_ _|refine kD ?_|refine kA ?_ _));refine blk_far ?_ NB209_222.out _;(with_reducible repeat (first|refine kN ?_ _|refine kD ?_|refine kA ?_ _));exact BK209.out)) : gb209 ≠ gb224));have n14_:=Ak ((by rw [hg];exact Nat.ne_of_gt (blk_lt (g:=gb209) (o:=.cells #[.int .u64 0,.int .u64 0,.int .u64 0,.int .u64 0] 79 (0,0)) (by (with_reducible repeat (first|refine kN ?_ _|refine kD ?_|refine kA ?_ _));refine blk_far ?_ NB209_223.out _;(with_reducible repeat (first|refine kN ?_ _|refine kD ?_|refine kA ?_ _));refine blk_far ?_ NB209_223.out _;(with_reducible repeat (first|refine kN ?_ _|refine kD ?_|refine kA ?_ _));refine blk_far ?_ NB209_223.out _;(with_reducible repeat (first|refine kN ?_ _|refine kD ?_|refine kA ?_ _));refine blk_far ?_ NB209_223.out _;(with_reducible repeat (first|refine kN ?_ _|refine kD ?_|refine kA ?_ _));refine blk_far ?_ NB209_222.out _;(with_reducible repeat (first|refine kN ?_ _|refine kD ?_|refine kA ?_ _));refine blk_far ?_ NB209_222.out _;(with_reducible repeat (first|refine kN ?_ _|refine kD ?_|refine kA ?_ _));refine blk_far ?_ NB209_222.out _;(with_reducible repeat (first|refine kN ?_ _|refine kD ?_|refine kA ?_ _));refine blk_far ?_ NB209_222.out _;(with_reducible repeat (first|refine kN ?_ _|refine kD ?_|refine kA ?_ _));exact BK209.out)) : gb224 ≠ gb209));have n15_:=Ak ((by rw [hg];exact Nat.ne_of_lt (blk_lt (g:=gb222) (o:=.cells #[.int .u64 t214,.int .u64 t215,.int .u64 t216,.int .u64 t217] 79 (0,0)) (by (with_reducible repeat (first|refine kN ?_ _|refine kD ?_|refine kA ?_ _));refine blk_far ?_ NB222_223.out _;(with_reducible repeat (first|refine kN ?_ _|refine kD ?_|refine kA ?_ _));refine blk_far ?_ NB222_223.out _;(with_reducible repeat (first|refine kN ?_ _|refine kD ?_|refine kA ?_ _));refine blk_far ?_ NB222_223.out _;(with_reducible repeat (first|refine kN ?_ _|refine kD ?_|refine kA ?_ _));refine blk_far ?_ NB222_223.out _;(with_reducible repeat (first|refine kN ?_ _|refine kD ?_|refine kA ?_ _));refine blk_put (cs:=#[.int .u64 t214,.int .u64 t215,.int .u64 t216,.int .u64 0]) ?_ 3 _ rfl;(with_reducible repeat (first|refine kN ?_ _|refine kD ?_|refine kA ?_ _));refine blk_put (cs:=#[.int .u64 t214,.int .u64 t215,.int .u64 0,.int .u64 0]) ?_ 2 _ rfl;(with_reducible repeat (first|refine kN ?_ _|refine kD ?_|refine kA ?_ _));refine blk_put (cs:=#[.int .u64 t214,.int .u64 0,.int .u64 0,.int .u64 0]) ?_ 1 _ rfl;(with_reducible repeat (first|refine kN ?_ _|refine kD ?_|refine kA ?_ _));refine blk_put (cs:=#[.int .u64 0,.int .u64 0,.int .u64 0,.int .u64 0]) ?_ 0 _ rfl;(with_reducible repeat (first|refine kN ?_ _|refine kD ?_|refine kA ?_ _));exact BK222.out)) : gb222 ≠ gb224));have n16_:=Ak ((by rw [hg];exact Nat.ne_of_gt (blk_lt (g:=gb222) (o:=.cells #[.int .u64 t214,.int .u64 t215,.int .u64 t216,.int .u64 t217] 79 (0,0)) (by (with_reducible repeat (first|refine kN ?_ _|refine kD ?_|refine kA ?_ _));refine blk_far ?_ NB222_223.out _;(with_reducible repeat (first|refine kN ?_ _|refine kD ?_|refine kA ?_ _));refine blk_far ?_ NB222_223.out _;(with_reducible repeat (first|refine kN ?_ _|refine kD ?_|refine kA ?_ _));refine blk_far ?_ NB222_223.out _;(with_reducible repeat (first|refine kN ?_ _|refine kD ?_|refine kA ?_ _));refine blk_far ?_ NB222_223.out _;(with_reducible repeat (first|refine kN ?_ _|refine kD ?_|refine kA ?_ _));refine blk_put (cs:=#[.int .u64 t214,.int .u64 t215,.int .u64 t216,.int .u64 0]) ?_ 3 _ rfl;(with_reducible repeat (first|refine kN ?_ _|refine kD ?_|refine kA ?_ _));refine blk_put (cs:=#[.int .u64 t214,.int .u64 t215,.int .u64 0,.int .u64 0]) ?_ 2 _ rfl;(with_reducible repeat (first|refine kN ?_ _|refine kD ?_|refine kA ?_ _));refine blk_put (cs:=#[.int .u64 t214,.int .u64 0,.int .u64 0,.int .u64 0]) ?_ 1 _ rfl;(with_reducible repeat (first|refine kN ?_ _|refine kD ?_|refine kA ?_ _));refine blk_put (cs:=#[.int .u64 0,.int .u64 0,.int .u64 0,.int .u64 0]) ?_ 0 _ rfl;(with_reducible repeat (first|refine kN ?_ _|refine kD ?_|refine kA ?_ _));exact BK222.out)) : gb224 ≠ gb222));have n17_:=Ak ((by rw [hg];exact Nat.ne_of_lt (blk_lt (g:=gb223) (o:=.cells #[.int .u64 t218,.int .u64 t219,.int .u64 t220,.int .u64 t221] 79 (0,0)) (by (with_reducible repeat (first|refine kN ?_ _|refine kD ?_|refine kA ?_ _));refine blk_put (cs:=#[.int .u64 t218,.int .u64 t219,.int .u64 t220,.int .u64 0]) ?_ 3 _ rfl;(with_reducible repeat (first|refine kN ?_ _|refine kD ?_|refine kA ?_ _));refine blk_put (cs:=#[.int .u64 t218,.int .u64 t219,.int .u64 0,.int .u64 0]) ?_ 2 _ rfl;(with_reducible repeat (first|refine kN ?_ _|refine kD ?_|refine kA ?_ _));refine blk_put (cs:=#[.int .u64 t218,.int .u64 0,.int .u64 0,.int .u64 0]) ?_ 1 _ rfl;(with_reducible repeat (first|refine kN ?_ _|refine kD ?_|refine kA ?_ _));refine blk_put (cs:=#[.int .u64 0,.int .u64 0,.int .u64 0,.int .u64 0]) ?_ 0 _ rfl;(with_reducible repeat (first|refine kN ?_ _|refine kD ?_|refine kA ?_ _));refine blk_far ?_ NB223_222.out _;(with_reducible repeat (first|refine kN ?_ _|refine kD ?_|refine kA ?_ _));refine blk_far ?_ NB223_222.out _;(with_reducible repeat (first|refine kN ?_ _|refine kD ?_|refine kA ?_ _));refine blk_far ?_ NB223_222.out _;(with_reducible repeat (first|refine kN ?_ _|refine kD ?_|refine kA ?_ _));refine blk_far ?_ NB223_222.out _;(with_reducible repeat (first|refine kN ?_ _|refine kD ?_|refine kA ?_ _));exact BK223.out)) : gb223 ≠ gb224));have n18_:=Ak ((by rw [hg];exact Nat.ne_of_gt (blk_lt (g:=gb223) (o:=.cells #[.int .u64 t218,.int .u64 t219,.int .u64 t220,.int .u64 t221] 79 (0,0)) (by (with_reducible repeat (first|refine kN ?_ _|refine kD ?_|refine kA ?_ _));refine blk_put (cs:=#[.int .u64 t218,.int .u64 t219,.int .u64 t220,.int .u64 0]) ?_ 3 _ rfl;(with_reducible repeat (first|refine kN ?_ _|refine kD ?_|refine kA ?_ _));refine blk_put (cs:=#[.int .u64 t218,.int .u64 t219,.int .u64 0,.int .u64 0]) ?_ 2 _ rfl;(with_reducible repeat (first|refine kN ?_ _|refine kD ?_|refine kA ?_ _));refine blk_put (cs:=#[.int .u64 t218,.int .u64 0,.int .u64 0,.int .u64 0]) ?_ 1 _ rfl;(with_reducible repeat (first|refine kN ?_ _|refine kD ?_|refine kA ?_ _));refine blk_put (cs:=#[.int .u64 0,.int .u64 0,.int .u64 0,.int .u64 0]) ?_ 0 _ rfl;(with_reducible repeat (first|refine kN ?_ _|refine kD ?_|refine kA ?_ _));refine blk_far ?_ NB223_222.out _;(with_reducible repeat (first|refine kN ?_ _|refine kD ?_|refine kA ?_ _));refine blk_far ?_ NB223_222.out _;(with_reducible repeat (first|refine kN ?_ _|refine kD ?_|refine kA ?_ _));refine blk_far ?_ NB223_222.out _;(with_reducible repeat (first|refine kN ?_ _|refine kD ?_|refine kA ?_ _));refine blk_far ?_ NB223_222.out _;(with_reducible repeat (first|refine kN ?_ _|refine kD ?_|refine kA ?_ _));exact BK223.out)) : gb224 ≠ gb223));clear BK207;clear BK208;clear BK209;clear BK222;clear BK223;clear HB;have BK207:=n0_;have BK208:=n1_;have BK209:=n2_;have BK222:=n3_;have BK223:=n4_;have HB:=n5_;have BK224:=n6_;have GW224:=n7_;have GE224:=n8_;have NB207_224:=n9_;have NB224_207:=n10_;have NB208_224:=n11_;have NB224_208:=n12_;have NB209_224:=n13_;have NB224_209:=n14_;have NB222_224:=n15_;have NB224_222:=n16_;have NB223_224:=n17_;have NB224_223:=n18_;clear n0_ n1_ n2_ n3_ n4_ n5_ n6_ n7_ n8_ n9_ n10_ n11_ n12_ n13_ n14_ n15_ n16_ n17_ n18_;clear hb hbox hg;have hnb27:=NB222_207.out;have hnc27:=NB207_222.out;have hnb28:=NB222_208.out;have hnc28:=NB208_222.out;have hnb29:=NB222_209.out;have hnc29:=NB209_222.out;have hnb30:=NB222_223.out;have hnc30:=NB223_222.out;have hnb31:=NB222_224.out;have hnc31:=NB224_222.out;have hcz32_0 : w26.cell? ⟨gb222,0,none⟩ = some (.int .u64 t214):=(kC BK222.out 0).trans rfl;have hcz32_1 : w26.cell? ⟨gb222,1,none⟩ = some (.int .u64 t215):=(kC BK222.out 1).trans rfl;have hcz32_2 : w26.cell? ⟨gb222,2,none⟩ = some (.int .u64 t216):=(kC BK222.out 2).trans rfl;have hcz32_3 : w26.cell? ⟨gb222,3,none⟩ = some (.int .u64 t217):=(kC BK222.out 3).trans rfl;have hfz32_0:=blk_frozen BK222.out 0;have hfz32_1:=blk_frozen BK222.out 1;have hfz32_2:=blk_frozen BK222.out 2;have hfz32_3:=blk_frozen BK222.out 3;have hnb33:=NB223_207.out;have hnc33:=NB207_223.out;have hnb34:=NB223_208.out;have hnc34:=NB208_223.out;have hnb35:=NB223_209.out;have hnc35:=NB209_223.out;have hnb36:=NB223_224.out;have hnc36:=NB224_223.out;have hcz37_0 : w26.cell? ⟨gb223,0,none⟩ = some (.int .u64 t218):=(kC BK223.out 0).trans rfl;have hcz37_1 : w26.cell? ⟨gb223,1,none⟩ = some (.int .u64 t219):=(kC BK223.out 1).trans rfl;have hcz37_2 : w26.cell? ⟨gb223,2,none⟩ = some (.int .u64 t220):=(kC BK223.out 2).trans rfl;have hcz37_3 : w26.cell? ⟨gb223,3,none⟩ = some (.int .u64 t221):=(kC BK223.out 3).trans rfl;have hfz37_0:=blk_frozen BK223.out 0;have hfz37_1:=blk_frozen BK223.out 1;have hfz37_2:=blk_frozen BK223.out 2;have hfz37_3:=blk_frozen BK223.out 3)|((with_reducible refine gate_callee (f:=29) rfl ?_);refine goesL_ (some 19) rfl rfl Try.func29 (by kernel_rfl) rfl #[.agg #[.int .u64 t214,.int .u64 t215],.agg #[.int .u64 t218,.int .u64 t219]] rfl (by (try simp only [List.map_toArray,List.map_cons,List.map_nil]);first|done|rfl|(simp only [List.length_drop,List.length_take];rfl)) ?_;(with_reducible refine (wide_Sub.calls t214 t215 t218 t219 t225 t226 t227 _ A6.out).mono ?_);rintro e w38 ⟨rfl,hb⟩;refine ⟨_,rfl,?_⟩;have n0_:=Ak (kB (g:=gb207) (o:=.cells #[.int .i64 a0_0,.int .i64 a0_1,.int .i64 a0_2,.int .i64 a0_3] 35 (0,0)) (by (with_reducible repeat (first|refine kN ?_ _|refine kD ?_|refine kA ?_ _));exact BK207.out) hb);have n1_:=Ak (kB (g:=gb208) (o:=.cells #[.int .i64 a1_0,.int .i64 a1_1,.int .i64 a1_2,.int .i64 a1_3] 35 (0,0)) (by (with_reducible repeat (first|refine kN ?_ _|refine kD ?_|refine kA ?_ _));exact BK208.out) hb);have n2_:=Ak (kB (g:=gb209) (o:=.cells #[.int .u64 0,.int .u64 0,.int .u64 0,.int .u64 0] 79 (0,0)) (by (with_reducible repeat (first|refine kN ?_ _|refine kD ?_|refine kA ?_ _));exact BK209.out) hb);have n3_:=Ak (kB (g:=gb222) (o:=.cells #[.int .u64 t214,.int .u64 t215,.int .u64 t216,.int .u64 t217] 79 (0,0)) (by (with_reducible repeat (first|refine kN ?_ _|refine kD ?_|refine kA ?_ _));exact BK222.out) hb);have n4_:=Ak (kB (g:=gb223) (o:=.cells #[.int .u64 t218,.int .u64 t219,.int .u64 t220,.int .u64 t221] 79 (0,0)) (by (with_reducible repeat (first|refine kN ?_ _|refine kD ?_|refine kA ?_ _));exact BK223.out) hb);have n5_:=Ak (kB (g:=gb224) (o:=.cells #[.int .u64 0,.int .u64 0,.int .u64 0,.int .u64 0] 79 (0,0)) (by (with_reducible repeat (first|refine kN ?_ _|refine kD ?_|refine kA ?_ _));exact BK224.out) hb);have n6_:=Ak (below_step (by repeat (first|(with_reducible first|exact HB.out|apply bA|apply bN|apply bD|refine bS ?_ GE207.out|refine bS ?_ GE208.out|refine bS ?_ GE209.out|refine bS ?_ GE222.out|refine bS ?_ GE223.out|refine bS ?_ GE224.out)|exact HB.out)) hb);clear BK207;clear BK208;clear BK209;clear BK222;clear BK223;clear BK224;clear HB;have BK207:=n0_;have BK208:=n1_;have BK209:=n2_;have BK222:=n3_;have BK223:=n4_;have BK224:=n5_;have HB:=n6_;clear n0_ n1_ n2_ n3_ n4_ n5_ n6_;(try clear hb);(try clear hb2);(try clear hk);(try clear hi);have hnb39:=NB224_207.out;have hnc39:=NB207_224.out;have hnb40:=NB224_208.out;have hnc40:=NB208_224.out;have hnb41:=NB224_209.out;have hnc41:=NB209_224.out;have hcz42_0 : w38.cell? ⟨gb224,0,none⟩ = some (.int .u64 0):=(kC BK224.out 0).trans rfl;have hcz42_1 : w38.cell? ⟨gb224,1,none⟩ = some (.int .u64 0):=(kC BK224.out 1).trans rfl;have hcz42_2 : w38.cell? ⟨gb224,2,none⟩ = some (.int .u64 0):=(kC BK224.out 2).trans rfl;have hcz42_3 : w38.cell? ⟨gb224,3,none⟩ = some (.int .u64 0):=(kC BK224.out 3).trans rfl;have hfz42_0:=blk_frozen BK224.out 0;have hfz42_1:=blk_frozen BK224.out 1;have hfz42_2:=blk_frozen BK224.out 2;have hfz42_3:=blk_frozen BK224.out 3;have hcz43_0 : w38.cell? ⟨gb222,0,none⟩ = some (.int .u64 t214):=(kC BK222.out 0).trans rfl;have hcz43_1 : w38.cell? ⟨gb222,1,none⟩ = some (.int .u64 t215):=(kC BK222.out 1).trans rfl;have hcz43_2 : w38.cell? ⟨gb222,2,none⟩ = some (.int .u64 t216):=(kC BK222.out 2).trans rfl;have hcz43_3 : w38.cell? ⟨gb222,3,none⟩ = some (.int .u64 t217):=(kC BK222.out 3).trans rfl;have hfz43_0:=blk_frozen BK222.out 0;have hfz43_1:=blk_frozen BK222.out 1;have hfz43_2:=blk_frozen BK222.out 2;have hfz43_3:=blk_frozen BK222.out 3;have hcz44_0 : w38.cell? ⟨gb223,0,none⟩ = some (.int .u64 t218):=(kC BK223.out 0).trans rfl;have hcz44_1 : w38.cell? ⟨gb223,1,none⟩ = some (.int .u64 t219):=(kC BK223.out 1).trans rfl;have hcz44_2 : w38.cell? ⟨gb223,2,none⟩ = some (.int .u64 t220):=(kC BK223.out 2).trans rfl;have hcz44_3 : w38.cell? ⟨gb223,3,none⟩ = some (.int .u64 t221):=(kC BK223.out 3).trans rfl;have hfz44_0:=blk_frozen BK223.out 0;have hfz44_1:=blk_frozen BK223.out 1;have hfz44_2:=blk_frozen BK223.out 2;have hfz44_3:=blk_frozen BK223.out 3)|((with_reducible refine gate_callee (f:=29) rfl ?_);refine goesL_ (some 28) rfl rfl Try.func29 (by kernel_rfl) rfl #[.agg #[.int .u64 t216,.int .u64 t217],.agg #[.int .u64 t220,.int .u64 t221]] rfl (by (try simp only [List.map_toArray,List.map_cons,List.map_nil]);first|done|rfl|(simp only [List.length_drop,List.length_take];rfl)) ?_;(with_reducible refine (wide_Sub.calls t216 t217 t220 t221 t228 t229 t230 _ A7.out).mono ?_);rintro e w45 ⟨rfl,hb⟩;refine ⟨_,rfl,?_⟩;have n0_:=Ak (kB (g:=gb207) (o:=.cells #[.int .i64 a0_0,.int .i64 a0_1,.int .i64 a0_2,.int .i64 a0_3] 35 (0,0)) (by (with_reducible repeat (first|refine kN ?_ _|refine kD ?_|refine kA ?_ _));refine blk_far ?_ NB207_224.out _;(with_reducible repeat (first|refine kN ?_ _|refine kD ?_|refine kA ?_ _));refine blk_far ?_ NB207_224.out _;(with_reducible repeat (first|refine kN ?_ _|refine kD ?_|refine kA ?_ _));exact BK207.out) hb);have n1_:=Ak (kB (g:=gb208) (o:=.cells #[.int .i64 a1_0,.int .i64 a1_1,.int .i64 a1_2,.int .i64 a1_3] 35 (0,0)) (by (with_reducible repeat (first|refine kN ?_ _|refine kD ?_|refine kA ?_ _));refine blk_far ?_ NB208_224.out _;(with_reducible repeat (first|refine kN ?_ _|refine kD ?_|refine kA ?_ _));refine blk_far ?_ NB208_224.out _;(with_reducible repeat (first|refine kN ?_ _|refine kD ?_|refine kA ?_ _));exact BK208.out) hb);have n2_:=Ak (kB (g:=gb209) (o:=.cells #[.int .u64 0,.int .u64 0,.int .u64 0,.int .u64 0] 79 (0,0)) (by (with_reducible repeat (first|refine kN ?_ _|refine kD ?_|refine kA ?_ _));refine blk_far ?_ NB209_224.out _;(with_reducible repeat (first|refine kN ?_ _|refine kD ?_|refine kA ?_ _));refine blk_far ?_ NB209_224.out _;(with_reducible repeat (first|refine kN ?_ _|refine kD ?_|refine kA ?_ _));exact BK209.out) hb);have n3_:=Ak (kB (g:=gb222) (o:=.cells #[.int .u64 t214,.int .u64 t215,.int .u64 t216,.int .u64 t217] 79 (0,0)) (by (with_reducible repeat (first|refine kN ?_ _|refine kD ?_|refine kA ?_ _));refine blk_far ?_ NB222_224.out _;(with_reducible repeat (first|refine kN ?_ _|refine kD ?_|refine kA ?_ _));refine blk_far ?_ NB222_224.out _;(with_reducible repeat (first|refine kN ?_ _|refine kD ?_|refine kA ?_ _));exact BK222.out) hb);have n4_:=Ak (kB (g:=gb223) (o:=.cells #[.int .u64 t218,.int .u64 t219,.int .u64 t220,.int .u64 t221] 79 (0,0)) (by (with_reducible repeat (first|refine kN ?_ _|refine kD ?_|refine kA ?_ _));refine blk_far ?_ NB223_224.out _;(with_reducible repeat (first|refine kN ?_ _|refine kD ?_|refine kA ?_ _));refine blk_far ?_ NB223_224.out _;(with_reducible repeat (first|refine kN ?_ _|refine kD ?_|refine kA ?_ _));exact BK223.out) hb);have n5_:=Ak (kB (g:=gb224) (o:=.cells #[.int .u64 t225,.int .u64 t226,.int .u64 0,.int .u64 0] 79 (0,0)) (by (with_reducible repeat (first|refine kN ?_ _|refine kD ?_|refine kA ?_ _));refine blk_put (cs:=#[.int .u64 t225,.int .u64 0,.int .u64 0,.int .u64 0]) ?_ 1 _ rfl;(with_reducible repeat (first|refine kN ?_ _|refine kD ?_|refine kA ?_ _));refine blk_put (cs:=#[.int .u64 0,.int .u64 0,.int .u64 0,.int .u64 0]) ?_ 0 _ rfl;(with_reducible repeat (first|refine kN ?_ _|refine kD ?_|refine kA ?_ _));exact BK224.out) hb);have n6_:=Ak (below_step (by repeat (first|(with_reducible first|exact HB.out|apply bA|apply bN|apply bD|refine bS ?_ GE207.out|refine bS ?_ GE208.out|refine bS ?_ GE209.out|refine bS ?_ GE222.out|refine bS ?_ GE223.out|refine bS ?_ GE224.out)|exact HB.out)) hb);clear BK207;clear BK208;clear BK209;clear BK222;clear BK223;clear BK224;clear HB;have BK207:=n0_;have BK208:=n1_;have BK209:=n2_;have BK222:=n3_;have BK223:=n4_;have BK224:=n5_;have HB:=n6_;clear n0_ n1_ n2_ n3_ n4_ n5_ n6_;(try clear hb);(try clear hb2);(try clear hk);(try clear hi);have hcz46_0 : w45.cell? ⟨gb224,0,none⟩ = some (.int .u64 t225):=(kC BK224.out 0).trans rfl;have hcz46_1 : w45.cell? ⟨gb224,1,none⟩ = some (.int .u64 t226):=(kC BK224.out 1).trans rfl;have hcz46_2 : w45.cell? ⟨gb224,2,none⟩ = some (.int .u64 0):=(kC BK224.out 2).trans rfl;have hcz46_3 : w45.cell? ⟨gb224,3,none⟩ = some (.int .u64 0):=(kC BK224.out 3).trans rfl;have hfz46_0:=blk_frozen BK224.out 0;have hfz46_1:=blk_frozen BK224.out 1;have hfz46_2:=blk_frozen BK224.out 2;have hfz46_3:=blk_frozen BK224.out 3;have hnb47:=NB209_207.out;have hnc47:=NB207_209.out;have hnb48:=NB209_208.out;have hnc48:=NB208_209.out;have hcz49_0 : w45.cell? ⟨gb209,0,none⟩ = some (.int .u64 0):=(kC BK209.out 0).trans rfl;have hcz49_1 : w45.cell? ⟨gb209,1,none⟩ = some (.int .u64 0):=(kC BK209.out 1).trans rfl;have hcz49_2 : w45.cell? ⟨gb209,2,none⟩ = some (.int .u64 0):=(kC BK209.out 2).trans rfl;have hcz49_3 : w45.cell? ⟨gb209,3,none⟩ = some (.int .u64 0):=(kC BK209.out 3).trans rfl;have hfz49_0:=blk_frozen BK209.out 0;have hfz49_1:=blk_frozen BK209.out 1;have hfz49_2:=blk_frozen BK209.out 2;have hfz49_3:=blk_frozen BK209.out 3))
 refine bodyPost_ret (results_cell_row rfl _ _ gb209 79 #[.int .u64 t225,.int .u64 t226,.int .u64 t228,.int .u64 t229] (0,0) _ rfl (by (with_reducible repeat (first|refine kN ?_ _|refine kD ?_|refine kA ?_ _));refine blk_put (cs:=#[.int .u64 t225,.int .u64 t226,.int .u64 t228,.int .u64 0]) ?_ 3 _ rfl;(with_reducible repeat (first|refine kN ?_ _|refine kD ?_|refine kA ?_ _));refine blk_put (cs:=#[.int .u64 t225,.int .u64 t226,.int .u64 0,.int .u64 0]) ?_ 2 _ rfl;(with_reducible repeat (first|refine kN ?_ _|refine kD ?_|refine kA ?_ _));refine blk_put (cs:=#[.int .u64 t225,.int .u64 0,.int .u64 0,.int .u64 0]) ?_ 1 _ rfl;(with_reducible repeat (first|refine kN ?_ _|refine kD ?_|refine kA ?_ _));refine blk_put (cs:=#[.int .u64 0,.int .u64 0,.int .u64 0,.int .u64 0]) ?_ 0 _ rfl;(with_reducible repeat (first|refine kN ?_ _|refine kD ?_|refine kA ?_ _));refine blk_far ?_ NB209_224.out _;(with_reducible repeat (first|refine kN ?_ _|refine kD ?_|refine kA ?_ _));refine blk_far ?_ NB209_224.out _;(with_reducible repeat (first|refine kN ?_ _|refine kD ?_|refine kA ?_ _));exact BK209.out) Try.underlying79 rfl (by kernel_rfl)) rfl ?_
 exact ⟨by first|rfl|(simp [errW_none,errW_some] <;> rfl)|(simp [*,errW_none,errW_some] <;> rfl),by repeat (first|(with_reducible first|exact HB.out|apply bA|apply bN|apply bD|refine bS ?_ GE207.out|refine bS ?_ GE208.out|refine bS ?_ GE209.out|refine bS ?_ GE222.out|refine bS ?_ GE223.out|refine bS ?_ GE224.out)|exact HB.out)⟩
end Go.Proofs.Ythlhmijgbjcloaa.A
end
