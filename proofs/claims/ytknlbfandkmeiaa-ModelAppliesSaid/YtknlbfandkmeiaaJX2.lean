/- What the row of this claim reaches. No condition. -/
import Derived.Test.YtknlbfandkmeiaaJX0
import Derived.Test.YtknlbfandkmeiaaJMIns
set_option linter.unusedVariables false
set_option linter.unusedSimpArgs false
section
namespace Go.Proofs.Ytknlbfandkmeiaa.M
open Go.RowKit Go.Proofs.YtknlbfandkmeiaaW.PrintWords Go.Proofs.YtknlbfandkmeiaaW.PrintLast Go.Proofs.YtknlbfandkmeiaaW.PrintMore
attribute [local go_sem] max2_int min2_int max_two min_two max_three min_three max_four min_four   -- for this text's walks alone
def gazetteerref22_Right.l0 : Nat → List (S51) → Int → Int → List (S51) → Option (Bool)
  | 0, _, _, _, _ => none
  | k + 1, x6, x7, x8, x165000 => if x8 < x7 then (if 0 ≤ x8 then (if x8 < (x6.length : Int) then (if ((rd_T51 x6 x8).f0) = 0 then (some false) else (if x8 > 0 then (if 0 ≤ (wrap64 (x8 - 1)) then (if (wrap64 (x8 - 1)) < (x165000.length : Int) then (if ((rd_T51 x165000 (wrap64 (x8 - 1))).f0) ≥ ((rd_T51 x6 x8).f0) then (some false) else ((gazetteerref09_Box.f ((rd_T51 x6 x8).f1.f0) ((rd_T51 x6 x8).f1.f1) ((rd_T51 x6 x8).f1.f2) ((rd_T51 x6 x8).f1.f3)).bind fun t168 => (if t168 = true then (gazetteerref22_Right.l0 k x6 x7 (wrap64 (x8 + 1)) x165000) else (some false)))) else (none)) else (none)) else ((gazetteerref09_Box.f ((rd_T51 x6 x8).f1.f0) ((rd_T51 x6 x8).f1.f1) ((rd_T51 x6 x8).f1.f2) ((rd_T51 x6 x8).f1.f3)).bind fun t169 => (if t169 = true then (gazetteerref22_Right.l0 k x6 x7 (wrap64 (x8 + 1)) x165000) else (some false))))) else (none)) else (none)) else (some (decide ((x165000.length : Int) ≤ 128)))
def gazetteerref22_Right.f (k : Nat) (l0_0 : List (S51)) : Option (Bool) := gazetteerref22_Right.l0 k l0_0 (l0_0.length : Int) 0 l0_0
def gazetteerref22_Right.T4 : Bool × List (List Nat × List Nat) := (true, [([], []), ([0], [0]), ([1], [1]), ([2], [2]), ([3], [3]), ([4, 3], [3, 4]), ([5, 3, 3], [3, 5]), ([6], [6]), ([7, 6], [6, 7]), ([6], [6]), ([9, 6], [6, 9]), ([8, 10, 6], [6, 8, 10]), ([11, 6], [6, 11]), ([12, 6], [6, 12]), ([6], [6]), ([14, 6], [6, 14]), ([13, 15, 6], [6, 13, 15]), ([6, 16, 3], [3, 6, 16]), ([3, 17], [3, 17]), ([18, 6], [18]), ([19], [19]), ([20, 19], [19, 20]), ([21, 19, 19], [19, 21]), ([22, 19], [19, 22]), ([19, 23], [19, 23])])
def gazetteerref22_Right.B4 : List Nat := [0, 1, 3, 7, 15, 31, 63, 127, 255, 127, 639, 2047, 4095, 8191, 127, 16511, 65535, 131071, 262143, 524287, 1048575, 2097151, 4194303, 8388607, 16777215]
theorem gazetteerref22_Right.tab4 : rtab .any (opsOf Try.f16 4) = gazetteerref22_Right.T4 := by kernel_rfl
theorem gazetteerref22_Right.bits4 : waitsOk gazetteerref22_Right.T4.2 gazetteerref22_Right.B4 = true := by kernel_rfl
set_option maxHeartbeats 8000000 in
set_option maxRecDepth 100000 in
theorem gazetteerref22_Right.calls (k : Nat) (A0_0 : Option Addr) (c0_0 : Nat) (l0_0 : List (S51)) (r : Bool) (w : World) (hr0_0 : Kd.C k51 w A0_0 l0_0.length l0_0) (hc0_0 : l0_0.length ≤ c0_0) (h : gazetteerref22_Right.f k l0_0 = some r) :
  Calls Try.prog 16 #[.agg #[.slice A0_0 l0_0.length c0_0]] w fun e w' => e = .returned (.bool r)∧Below w.heap.size w w':=by
 have hu24:=Try.underlying24
 have hu51:=Try.underlying51
 have hu36:=Try.underlying36
 have HR0_0:=Ak hr0_0
 have HC0_0:=Ak hc0_0
 clear hr0_0 hc0_0
 have HB:=Ak (Below.refl w.heap.size w)
 have H : (gazetteerref22_Right.l0 k l0_0 (l0_0.length : Int) 0 l0_0) = some r:=h
 clear h
 have H':=Ak H
 clear H
 go_enter Try.func16,Try.ntmps16
 go_wp2_with (first|((with_reducible refine gate_dst (N:=1) rfl ?_);refine box_event ?hg (N:=1) ?hd (cs:=#[.slice A0_0 l0_0.length c0_0]) (t:=24) ?hr ?_;(case hd => rfl);(case hg => rfl);(case hr => first|(go_simp;done)|(go_simp;rfl));intro gb164 hg w2 hbox hb;have n0_:=Ak (below_step (by repeat (first|(with_reducible first|exact HB.out|apply bA|apply bN|apply bD)|exact HB.out)) hb);have n1_:=Ak (hbox);have n2_:=Ak ((by rw [hg];exact (below_size (by repeat (first|(with_reducible first|exact HB.out|apply bA|apply bN|apply bD)|exact HB.out))) : w.heap.size ≤ gb164));have n3_:=Ak ((by rw [hg];exact (below_size (by repeat (first|(with_reducible first|exact HB.out|apply bA|apply bN|apply bD)|exact HB.out))) : w.heap.size ≤ gb164));clear HB;have HB:=n0_;have BK164:=n1_;have GW164:=n2_;have GE164:=n3_;clear n0_ n1_ n2_ n3_;clear hb hbox hg;have hcz3_0 : w2.cell? ⟨gb164,0,none⟩ = some (.slice A0_0 l0_0.length c0_0):=(kC BK164.out 0).trans rfl;have hfz3_0:=blk_frozen BK164.out 0))
 go_loopg [8] k (fun kq v8 w' => ∃ (x8_1 : Int),v8 = .int .i64 x8_1∧Aside0 (gazetteerref22_Right.l0 kq l0_0 (l0_0.length : Int) x8_1 l0_0 = some r)∧Aside0 (kq ≤ k)∧Aside0 (w'.heap[gb164]? = some (.cells #[(.slice A0_0 l0_0.length c0_0)] 24 (0,0)))∧Aside0 (Below w.heap.size w w'))
 case atStart => exact ⟨(0),(by first|rfl|(simp;done)|(simp [*];done)),H',⟨Nat.le_refl _⟩,⟨by (with_reducible repeat (first|refine kN ?_ _|refine kD ?_|refine kA ?_ _));exact BK164.out⟩,⟨by repeat (first|(with_reducible first|exact HB.out|apply bA|apply bN|apply bD|refine bS ?_ GE164.out)|exact HB.out)⟩⟩
 case round =>
  clear H'
  try clear c1
  try clear p2
  try clear hcz3_0
  try clear hfz3_0
  obtain ⟨x8_1,rfl,HA,HK1,BK164,HB⟩:=hrel
  cases gk with
  | zero => exact absurd HA.out (by simp [gazetteerref22_Right.l0])
  | succ k1 =>
   have H:=HA.out
   clear HA
   simp only [gazetteerref22_Right.l0] at H
   by_cases c4 : x8_1 < (l0_0.length : Int)
   ·rw [if_pos c4] at H
    have c4b0 : decide (x8_1 < (l0_0.length : Int)) = true:=decide_eq_true c4
    clear c4
    by_cases c5 : 0 ≤ x8_1
    ·rw [if_pos c5] at H
     have c5b0 : decide (0 ≤ x8_1) = true:=decide_eq_true c5
     clear c5
     by_cases c6 : x8_1 < (l0_0.length : Int)
     ·rw [if_pos c6] at H
      have c6b0 : decide (x8_1 < (l0_0.length : Int)) = true:=decide_eq_true c6
      clear c6
      by_cases c7 : ((rd_T51 l0_0 x8_1).f0) = 0
      ·rw [if_pos c7] at H
       have c7b0 : (((rd_T51 l0_0 x8_1).f0) == 0) = true:=beq_iff_eq.mpr c7
       have c7b1 : (((rd_T51 l0_0 x8_1).f0) != 0) = false:=bne_eq_false_iff_eq.mpr c7
       clear c7
       obtain rfl:=Option.some.inj H
       have p165 : 0 ≤ (x8_1 : Int):=of_decide_eq_true (by first|(with_reducible assumption)|assumption)
       have q165 : x8_1 < (l0_0.length : Int):=of_decide_eq_true (by first|(with_reducible assumption)|assumption)
       obtain ⟨ad165,e165,hx165_0,hx165_1,hx165_2,hx165_3,hx165_4,hx165_5⟩:=at_T51 HR0_0.out x8_1 p165 q165
       cases e165
       replace hx165_0:=(HB.out.cell (World.block_lt_of_cell? w _ hx165_0)).trans hx165_0
       replace hx165_1:=(HB.out.cell (World.block_lt_of_cell? w _ hx165_1)).trans hx165_1
       replace hx165_2:=(HB.out.cell (World.block_lt_of_cell? w _ hx165_2)).trans hx165_2
       replace hx165_3:=(HB.out.cell (World.block_lt_of_cell? w _ hx165_3)).trans hx165_3
       replace hx165_4:=(HB.out.cell (World.block_lt_of_cell? w _ hx165_4)).trans hx165_4
       replace hx165_5:=(HB.out.cell (World.block_lt_of_cell? w _ hx165_5)).trans hx165_5
       replace p165:=eq_true p165
       replace q165:=eq_true q165
       try go_wp2_with (first|((with_reducible refine gate_dst (N:=4) rfl ?_);refine box_event ?hg (N:=4) ?hd (cs:=#[.int .u32 0,.int .i64 0,.int .i64 0,.int .i64 0,.int .i64 0,.int .i64 0]) (t:=51) ?hr ?_;(case hd => rfl);(case hg => rfl);(case hr => first|(go_simp;done)|(go_simp;rfl));intro gb166 hg w8 hbox hb;have n0_:=Ak (kB (g:=gb164) (o:=.cells #[.slice (some ad165) l0_0.length c0_0] 24 (0,0)) (by (with_reducible repeat (first|refine kN ?_ _|refine kD ?_|refine kA ?_ _));exact BK164.out) hb);have n1_:=Ak (below_step (by repeat (first|(with_reducible first|exact HB.out|apply bA|apply bN|apply bD|refine bS ?_ GE164.out)|exact HB.out)) hb);have n2_:=Ak (hbox);have n3_:=Ak ((by rw [hg];exact (below_size (by repeat (first|(with_reducible first|exact HB.out|apply bA|apply bN|apply bD|refine bS ?_ GE164.out)|exact HB.out))) : w.heap.size ≤ gb166));have n4_:=Ak ((by rw [hg];exact (below_size (by repeat (first|(with_reducible first|exact HB.out|apply bA|apply bN|apply bD|refine bS ?_ GE164.out)|exact HB.out))) : w.heap.size ≤ gb166));have n5_:=Ak ((by rw [hg];exact Nat.ne_of_lt (blk_lt (g:=gb164) (o:=.cells #[.slice (some ad165) l0_0.length c0_0] 24 (0,0)) (by (with_reducible repeat (first|refine kN ?_ _|refine kD ?_|refine kA ?_ _));exact BK164.out)) : gb164 ≠ gb166));have n6_:=Ak ((by rw [hg];exact Nat.ne_of_gt (blk_lt (g:=gb164) (o:=.cells #[.slice (some ad165) l0_0.length c0_0] 24 (0,0)) (by (with_reducible repeat (first|refine kN ?_ _|refine kD ?_|refine kA ?_ _));exact BK164.out)) : gb166 ≠ gb164));clear BK164;clear HB;have BK164:=n0_;have HB:=n1_;have BK166:=n2_;have GW166:=n3_;have GE166:=n4_;have NB164_166:=n5_;have NB166_164:=n6_;clear n0_ n1_ n2_ n3_ n4_ n5_ n6_;clear hb hbox hg;have hnb9:=NB166_164.out;have hnc9:=NB164_166.out;have hcz10_0 : w8.cell? ⟨gb166,0,none⟩ = some (.int .u32 0):=(kC BK166.out 0).trans rfl;have hcz10_1 : w8.cell? ⟨gb166,1,none⟩ = some (.int .i64 0):=(kC BK166.out 1).trans rfl;have hcz10_2 : w8.cell? ⟨gb166,2,none⟩ = some (.int .i64 0):=(kC BK166.out 2).trans rfl;have hcz10_3 : w8.cell? ⟨gb166,3,none⟩ = some (.int .i64 0):=(kC BK166.out 3).trans rfl;have hcz10_4 : w8.cell? ⟨gb166,4,none⟩ = some (.int .i64 0):=(kC BK166.out 4).trans rfl;have hcz10_5 : w8.cell? ⟨gb166,5,none⟩ = some (.int .i64 0):=(kC BK166.out 5).trans rfl;have hfz10_0:=blk_frozen BK166.out 0;have hfz10_1:=blk_frozen BK166.out 1;have hfz10_2:=blk_frozen BK166.out 2;have hfz10_3:=blk_frozen BK166.out 3;have hfz10_4:=blk_frozen BK166.out 4;have hfz10_5:=blk_frozen BK166.out 5))
       have n0_ : Aside0 (((((((w8.setCell ⟨gb166,0,none⟩ (.int .u32 ((rd_T51 l0_0 x8_1).f0))).setCell ⟨gb166,1,none⟩ (.int .i64 ((rd_T51 l0_0 x8_1).f1.f0))).setCell ⟨gb166,2,none⟩ (.int .i64 ((rd_T51 l0_0 x8_1).f1.f1))).setCell ⟨gb166,3,none⟩ (.int .i64 ((rd_T51 l0_0 x8_1).f1.f2))).setCell ⟨gb166,4,none⟩ (.int .i64 ((rd_T51 l0_0 x8_1).f1.f3))).setCell ⟨gb166,5,none⟩ (.int .i64 ((rd_T51 l0_0 x8_1).f2))).heap[gb164]? = some (.cells #[.slice (some ad165) l0_0.length c0_0] 24 (0,0))):=⟨by (with_reducible repeat (first|refine kN ?_ _|refine kD ?_|refine kA ?_ _));refine blk_far ?_ NB164_166.out _;(with_reducible repeat (first|refine kN ?_ _|refine kD ?_|refine kA ?_ _));refine blk_far ?_ NB164_166.out _;(with_reducible repeat (first|refine kN ?_ _|refine kD ?_|refine kA ?_ _));refine blk_far ?_ NB164_166.out _;(with_reducible repeat (first|refine kN ?_ _|refine kD ?_|refine kA ?_ _));refine blk_far ?_ NB164_166.out _;(with_reducible repeat (first|refine kN ?_ _|refine kD ?_|refine kA ?_ _));refine blk_far ?_ NB164_166.out _;(with_reducible repeat (first|refine kN ?_ _|refine kD ?_|refine kA ?_ _));refine blk_far ?_ NB164_166.out _;(with_reducible repeat (first|refine kN ?_ _|refine kD ?_|refine kA ?_ _));exact BK164.out⟩
       have n1_ : Aside0 (((((((w8.setCell ⟨gb166,0,none⟩ (.int .u32 ((rd_T51 l0_0 x8_1).f0))).setCell ⟨gb166,1,none⟩ (.int .i64 ((rd_T51 l0_0 x8_1).f1.f0))).setCell ⟨gb166,2,none⟩ (.int .i64 ((rd_T51 l0_0 x8_1).f1.f1))).setCell ⟨gb166,3,none⟩ (.int .i64 ((rd_T51 l0_0 x8_1).f1.f2))).setCell ⟨gb166,4,none⟩ (.int .i64 ((rd_T51 l0_0 x8_1).f1.f3))).setCell ⟨gb166,5,none⟩ (.int .i64 ((rd_T51 l0_0 x8_1).f2))).heap[gb166]? = some (.cells #[.int .u32 ((rd_T51 l0_0 x8_1).f0),.int .i64 ((rd_T51 l0_0 x8_1).f1.f0),.int .i64 ((rd_T51 l0_0 x8_1).f1.f1),.int .i64 ((rd_T51 l0_0 x8_1).f1.f2),.int .i64 ((rd_T51 l0_0 x8_1).f1.f3),.int .i64 ((rd_T51 l0_0 x8_1).f2)] 51 (0,0))):=⟨by (with_reducible repeat (first|refine kN ?_ _|refine kD ?_|refine kA ?_ _));refine blk_put (cs:=#[.int .u32 ((rd_T51 l0_0 x8_1).f0),.int .i64 ((rd_T51 l0_0 x8_1).f1.f0),.int .i64 ((rd_T51 l0_0 x8_1).f1.f1),.int .i64 ((rd_T51 l0_0 x8_1).f1.f2),.int .i64 ((rd_T51 l0_0 x8_1).f1.f3),.int .i64 0]) ?_ 5 _ rfl;(with_reducible repeat (first|refine kN ?_ _|refine kD ?_|refine kA ?_ _));refine blk_put (cs:=#[.int .u32 ((rd_T51 l0_0 x8_1).f0),.int .i64 ((rd_T51 l0_0 x8_1).f1.f0),.int .i64 ((rd_T51 l0_0 x8_1).f1.f1),.int .i64 ((rd_T51 l0_0 x8_1).f1.f2),.int .i64 0,.int .i64 0]) ?_ 4 _ rfl;(with_reducible repeat (first|refine kN ?_ _|refine kD ?_|refine kA ?_ _));refine blk_put (cs:=#[.int .u32 ((rd_T51 l0_0 x8_1).f0),.int .i64 ((rd_T51 l0_0 x8_1).f1.f0),.int .i64 ((rd_T51 l0_0 x8_1).f1.f1),.int .i64 0,.int .i64 0,.int .i64 0]) ?_ 3 _ rfl;(with_reducible repeat (first|refine kN ?_ _|refine kD ?_|refine kA ?_ _));refine blk_put (cs:=#[.int .u32 ((rd_T51 l0_0 x8_1).f0),.int .i64 ((rd_T51 l0_0 x8_1).f1.f0),.int .i64 0,.int .i64 0,.int .i64 0,.int .i64 0]) ?_ 2 _ rfl;(with_reducible repeat (first|refine kN ?_ _|refine kD ?_|refine kA ?_ _));refine blk_put (cs:=#[.int .u32 ((rd_T51 l0_0 x8_1).f0),.int .i64 0,.int .i64 0,.int .i64 0,.int .i64 0,.int .i64 0]) ?_ 1 _ rfl;(with_reducible repeat (first|refine kN ?_ _|refine kD ?_|refine kA ?_ _));refine blk_put (cs:=#[.int .u32 0,.int .i64 0,.int .i64 0,.int .i64 0,.int .i64 0,.int .i64 0]) ?_ 0 _ rfl;(with_reducible repeat (first|refine kN ?_ _|refine kD ?_|refine kA ?_ _));exact BK166.out⟩
       have n2_ : Aside0 (Below w.heap.size w ((((((w8.setCell ⟨gb166,0,none⟩ (.int .u32 ((rd_T51 l0_0 x8_1).f0))).setCell ⟨gb166,1,none⟩ (.int .i64 ((rd_T51 l0_0 x8_1).f1.f0))).setCell ⟨gb166,2,none⟩ (.int .i64 ((rd_T51 l0_0 x8_1).f1.f1))).setCell ⟨gb166,3,none⟩ (.int .i64 ((rd_T51 l0_0 x8_1).f1.f2))).setCell ⟨gb166,4,none⟩ (.int .i64 ((rd_T51 l0_0 x8_1).f1.f3))).setCell ⟨gb166,5,none⟩ (.int .i64 ((rd_T51 l0_0 x8_1).f2)))):=⟨by repeat (first|(with_reducible first|exact HB.out|apply bA|apply bN|apply bD|refine bS ?_ GE164.out|refine bS ?_ GE166.out)|exact HB.out)⟩
       (try clear BK164)
       (try clear BK166)
       (try clear HB)
       generalize ((((((w8.setCell ⟨gb166,0,none⟩ (.int .u32 ((rd_T51 l0_0 x8_1).f0))).setCell ⟨gb166,1,none⟩ (.int .i64 ((rd_T51 l0_0 x8_1).f1.f0))).setCell ⟨gb166,2,none⟩ (.int .i64 ((rd_T51 l0_0 x8_1).f1.f1))).setCell ⟨gb166,3,none⟩ (.int .i64 ((rd_T51 l0_0 x8_1).f1.f2))).setCell ⟨gb166,4,none⟩ (.int .i64 ((rd_T51 l0_0 x8_1).f1.f3))).setCell ⟨gb166,5,none⟩ (.int .i64 ((rd_T51 l0_0 x8_1).f2))) = w11 at n0_ n1_ n2_ ⊢
       have BK164:=n0_
       have BK166:=n1_
       have HB:=n2_
       clear n0_ n1_ n2_
       have n0_:=Ak (kD BK164.out)
       have n1_:=Ak (kD BK166.out)
       have n2_:=Ak (bD HB.out)
       clear BK164
       clear BK166
       clear HB
       have BK164:=n0_
       have BK166:=n1_
       have HB:=n2_
       clear n0_ n1_ n2_
       refine start_ (n:=25) (S:=fun w' => w'.cell? ⟨gb166,0,none⟩ = some (.int .u32 ((rd_T51 l0_0 x8_1).f0))∧w'.cell? ⟨gb166,1,none⟩ = some (.int .i64 ((rd_T51 l0_0 x8_1).f1.f0))∧w'.cell? ⟨gb166,2,none⟩ = some (.int .i64 ((rd_T51 l0_0 x8_1).f1.f1))∧w'.cell? ⟨gb166,3,none⟩ = some (.int .i64 ((rd_T51 l0_0 x8_1).f1.f2))∧w'.cell? ⟨gb166,4,none⟩ = some (.int .i64 ((rd_T51 l0_0 x8_1).f1.f3))∧w'.cell? ⟨gb166,5,none⟩ = some (.int .i64 ((rd_T51 l0_0 x8_1).f2))) (ds:=[]) #[ff,ff,ff,ff,ff,ff,ff,ff,ff,ff,ff,ff,ff,ff,ff,ff,ff,ff,ff,ff,ff,ff,ff,ff,ff] (by kernel_rfl) rfl rfl ⟨(kC BK166.out 0).trans rfl,(kC BK166.out 1).trans rfl,(kC BK166.out 2).trans rfl,(kC BK166.out 3).trans rfl,(kC BK166.out 4).trans rfl,(kC BK166.out 5).trans rfl⟩ (fun hHeld => ?_);refine with_tabW gazetteerref22_Right.tab4 gazetteerref22_Right.bits4 (fun HT_ HW_ => ?_)
       generalize w11.drew = w12 at BK164 BK166 HB hHeld ⊢
       refine pure_ (i:=0) (N:=some 13) (v:=?_) (a':=?_) #[tt,ff,ff,ff,ff,ff,ff,ff,ff,ff,ff,ff,ff,ff,ff,ff,ff,ff,ff,ff,ff,ff,ff,ff,ff] rfl rfl (any_of HT_.out (by kernel_rfl)) (fun _ _ _ h => h) (Or.inl ⟨by rfl,?_⟩) ?_ ?_
       rotate_left
       ·intro w'
        go_simp
        with_reducible rfl
       rotate_left
       ·simp only [Act.put,sA,sZ,sS,i64_w,i32_w]
        rfl
       refine take_ (i:=1) (N:=some 14) (v:=?_) (a':=?_) #[tt,tt,ff,ff,ff,ff,ff,ff,ff,ff,ff,ff,ff,ff,ff,ff,ff,ff,ff,ff,ff,ff,ff,ff,ff] rfl rfl (take_ofW HT_.out HW_.out (by kernel_rfl)) (fun _ _ _ h => h) (Or.inl ⟨by rfl,?_⟩) hHeld ?_ ?_
       rotate_left
       ·rintro w' ⟨s0,s1,s2,s3,s4,s5⟩
        go_simp
        with_reducible rfl
       rotate_left
       ·simp only [Act.put,sA,sZ,sS,i64_w,i32_w]
        rfl
       refine pure_ (i:=2) (N:=some 15) (v:=?_) (a':=?_) #[tt,tt,tt,ff,ff,ff,ff,ff,ff,ff,ff,ff,ff,ff,ff,ff,ff,ff,ff,ff,ff,ff,ff,ff,ff] rfl rfl (any_of HT_.out (by kernel_rfl)) (fun _ _ _ h => h) (Or.inl ⟨by rfl,?_⟩) ?_ ?_
       rotate_left
       ·intro w'
        go_simp
        with_reducible rfl
       rotate_left
       ·simp only [Act.put,sA,sZ,sS,i64_w,i32_w]
        rfl
       refine pure_ (i:=3) (N:=some 16) (v:=?_) (a':=?_) #[tt,tt,tt,tt,ff,ff,ff,ff,ff,ff,ff,ff,ff,ff,ff,ff,ff,ff,ff,ff,ff,ff,ff,ff,ff] rfl rfl (any_of HT_.out (by kernel_rfl)) (fun _ _ _ h => h) (Or.inl ⟨by rfl,?_⟩) ?_ ?_
       rotate_left
       ·intro w'
        go_simp
        with_reducible rfl
       rotate_left
       ·simp only [Act.put,sA,sZ,sS,i64_w,i32_w]
        rfl
       refine pure_ (i:=4) (N:=some 17) (v:=undef) (a':=?_) #[tt,tt,tt,tt,tt,ff,ff,ff,ff,ff,ff,ff,ff,ff,ff,ff,ff,ff,ff,ff,ff,ff,ff,ff,ff] rfl rfl (any_of HT_.out (by kernel_rfl)) (fun _ _ _ h => h) (Or.inr ⟨by rfl,rfl⟩) ?_ ?_
       rotate_left
       ·simp only [Act.put,sA,sZ,sS,i64_w,i32_w]
        rfl
       refine pure_ (i:=5) (N:=some 18) (v:=undef) (a':=?_) #[tt,tt,tt,tt,tt,tt,ff,ff,ff,ff,ff,ff,ff,ff,ff,ff,ff,ff,ff,ff,ff,ff,ff,ff,ff] rfl rfl (any_of HT_.out (by kernel_rfl)) (fun _ _ _ h => h) (Or.inr ⟨by rfl,rfl⟩) ?_ ?_
       rotate_left
       ·simp only [Act.put,sA,sZ,sS,i64_w,i32_w]
        rfl
       refine pure_ (i:=6) (N:=some 19) (v:=undef) (a':=?_) #[tt,tt,tt,tt,tt,tt,tt,ff,ff,ff,ff,ff,ff,ff,ff,ff,ff,ff,ff,ff,ff,ff,ff,ff,ff] rfl rfl (any_of HT_.out (by kernel_rfl)) (fun _ _ _ h => h) (Or.inr ⟨by rfl,rfl⟩) ?_ ?_
       rotate_left
       ·simp only [Act.put,sA,sZ,sS,i64_w,i32_w]
        rfl
       refine pure_ (i:=7) (N:=some 20) (v:=undef) (a':=?_) #[tt,tt,tt,tt,tt,tt,tt,tt,ff,ff,ff,ff,ff,ff,ff,ff,ff,ff,ff,ff,ff,ff,ff,ff,ff] rfl rfl (any_of HT_.out (by kernel_rfl)) (fun _ _ _ h => h) (Or.inr ⟨by rfl,rfl⟩) ?_ ?_
       rotate_left
       ·simp only [Act.put,sA,sZ,sS,i64_w,i32_w]
        rfl
       refine pure_ (i:=8) (N:=some 21) (v:=undef) (a':=?_) #[tt,tt,tt,tt,tt,tt,tt,tt,tt,ff,ff,ff,ff,ff,ff,ff,ff,ff,ff,ff,ff,ff,ff,ff,ff] rfl rfl (any_of HT_.out (by kernel_rfl)) (fun _ _ _ h => h) (Or.inr ⟨by rfl,rfl⟩) ?_ ?_
       rotate_left
       ·simp only [Act.put,sA,sZ,sS,i64_w,i32_w]
        rfl
       refine pure_ (i:=9) (N:=some 22) (v:=undef) (a':=?_) #[tt,tt,tt,tt,tt,tt,tt,tt,tt,tt,ff,ff,ff,ff,ff,ff,ff,ff,ff,ff,ff,ff,ff,ff,ff] rfl rfl (any_of HT_.out (by kernel_rfl)) (fun _ _ _ h => h) (Or.inr ⟨by rfl,rfl⟩) ?_ ?_
       rotate_left
       ·simp only [Act.put,sA,sZ,sS,i64_w,i32_w]
        rfl
       refine pure_ (i:=10) (N:=some 23) (v:=undef) (a':=?_) #[tt,tt,tt,tt,tt,tt,tt,tt,tt,tt,tt,ff,ff,ff,ff,ff,ff,ff,ff,ff,ff,ff,ff,ff,ff] rfl rfl (any_of HT_.out (by kernel_rfl)) (fun _ _ _ h => h) (Or.inr ⟨by rfl,rfl⟩) ?_ ?_
       rotate_left
       ·simp only [Act.put,sA,sZ,sS,i64_w,i32_w]
        rfl
       refine pure_ (i:=11) (N:=some 24) (v:=undef) (a':=?_) #[tt,tt,tt,tt,tt,tt,tt,tt,tt,tt,tt,tt,ff,ff,ff,ff,ff,ff,ff,ff,ff,ff,ff,ff,ff] rfl rfl (any_of HT_.out (by kernel_rfl)) (fun _ _ _ h => h) (Or.inr ⟨by rfl,rfl⟩) ?_ ?_
       rotate_left
       ·simp only [Act.put,sA,sZ,sS,i64_w,i32_w]
        rfl
       refine pure_ (i:=12) (N:=some 25) (v:=undef) (a':=?_) #[tt,tt,tt,tt,tt,tt,tt,tt,tt,tt,tt,tt,tt,ff,ff,ff,ff,ff,ff,ff,ff,ff,ff,ff,ff] rfl rfl (any_of HT_.out (by kernel_rfl)) (fun _ _ _ h => h) (Or.inr ⟨by rfl,rfl⟩) ?_ ?_
       rotate_left
       ·simp only [Act.put,sA,sZ,sS,i64_w,i32_w]
        rfl
       refine pure_ (i:=13) (N:=some 26) (v:=undef) (a':=?_) #[tt,tt,tt,tt,tt,tt,tt,tt,tt,tt,tt,tt,tt,tt,ff,ff,ff,ff,ff,ff,ff,ff,ff,ff,ff] rfl rfl (any_of HT_.out (by kernel_rfl)) (fun _ _ _ h => h) (Or.inr ⟨by rfl,rfl⟩) ?_ ?_
       rotate_left
       ·simp only [Act.put,sA,sZ,sS,i64_w,i32_w]
        rfl
       refine pure_ (i:=14) (N:=some 27) (v:=undef) (a':=?_) #[tt,tt,tt,tt,tt,tt,tt,tt,tt,tt,tt,tt,tt,tt,tt,ff,ff,ff,ff,ff,ff,ff,ff,ff,ff] rfl rfl (any_of HT_.out (by kernel_rfl)) (fun _ _ _ h => h) (Or.inr ⟨by rfl,rfl⟩) ?_ ?_
       rotate_left
       ·simp only [Act.put,sA,sZ,sS,i64_w,i32_w]
        rfl
       refine pure_ (i:=15) (N:=some 28) (v:=undef) (a':=?_) #[tt,tt,tt,tt,tt,tt,tt,tt,tt,tt,tt,tt,tt,tt,tt,tt,ff,ff,ff,ff,ff,ff,ff,ff,ff] rfl rfl (any_of HT_.out (by kernel_rfl)) (fun _ _ _ h => h) (Or.inr ⟨by rfl,rfl⟩) ?_ ?_
       rotate_left
       ·simp only [Act.put,sA,sZ,sS,i64_w,i32_w]
        rfl
       refine pure_ (i:=16) (N:=some 29) (v:=undef) (a':=?_) #[tt,tt,tt,tt,tt,tt,tt,tt,tt,tt,tt,tt,tt,tt,tt,tt,tt,ff,ff,ff,ff,ff,ff,ff,ff] rfl rfl (any_of HT_.out (by kernel_rfl)) (fun _ _ _ h => h) (Or.inr ⟨by rfl,rfl⟩) ?_ ?_
       rotate_left
       ·simp only [Act.put,sA,sZ,sS,i64_w,i32_w]
        rfl
       refine pure_ (i:=17) (N:=some 30) (v:=undef) (a':=?_) #[tt,tt,tt,tt,tt,tt,tt,tt,tt,tt,tt,tt,tt,tt,tt,tt,tt,tt,ff,ff,ff,ff,ff,ff,ff] rfl rfl (any_of HT_.out (by kernel_rfl)) (fun _ _ _ h => h) (Or.inr ⟨by rfl,rfl⟩) ?_ ?_
       rotate_left
       ·simp only [Act.put,sA,sZ,sS,i64_w,i32_w]
        rfl
       refine pure_ (i:=18) (N:=some 31) (v:=?_) (a':=?_) #[tt,tt,tt,tt,tt,tt,tt,tt,tt,tt,tt,tt,tt,tt,tt,tt,tt,tt,tt,ff,ff,ff,ff,ff,ff] rfl rfl (any_of HT_.out (by kernel_rfl)) (fun _ _ _ h => h) (Or.inl ⟨by rfl,?_⟩) ?_ ?_
       rotate_left
       ·intro w'
        go_simp
        with_reducible rfl
       rotate_left
       ·simp only [Act.put,sA,sZ,sS,i64_w,i32_w]
        rfl
       refine pure_ (i:=19) (N:=some 32) (v:=?_) (a':=?_) #[tt,tt,tt,tt,tt,tt,tt,tt,tt,tt,tt,tt,tt,tt,tt,tt,tt,tt,tt,tt,ff,ff,ff,ff,ff] rfl rfl (any_of HT_.out (by kernel_rfl)) (fun _ _ _ h => h) (Or.inl ⟨by rfl,?_⟩) ?_ ?_
       rotate_left
       ·intro w'
        go_simp
        with_reducible rfl
       rotate_left
       ·simp only [Act.put,sA,sZ,sS,i64_w,i32_w]
        rfl
       refine pure_ (i:=20) (N:=some 33) (v:=undef) (a':=?_) #[tt,tt,tt,tt,tt,tt,tt,tt,tt,tt,tt,tt,tt,tt,tt,tt,tt,tt,tt,tt,tt,ff,ff,ff,ff] rfl rfl (any_of HT_.out (by kernel_rfl)) (fun _ _ _ h => h) (Or.inr ⟨by rfl,rfl⟩) ?_ ?_
       rotate_left
       ·simp only [Act.put,sA,sZ,sS,i64_w,i32_w]
        rfl
       refine pure_ (i:=21) (N:=some 34) (v:=undef) (a':=?_) #[tt,tt,tt,tt,tt,tt,tt,tt,tt,tt,tt,tt,tt,tt,tt,tt,tt,tt,tt,tt,tt,tt,ff,ff,ff] rfl rfl (any_of HT_.out (by kernel_rfl)) (fun _ _ _ h => h) (Or.inr ⟨by rfl,rfl⟩) ?_ ?_
       rotate_left
       ·simp only [Act.put,sA,sZ,sS,i64_w,i32_w]
        rfl
       refine pure_ (i:=22) (N:=some 35) (v:=undef) (a':=?_) #[tt,tt,tt,tt,tt,tt,tt,tt,tt,tt,tt,tt,tt,tt,tt,tt,tt,tt,tt,tt,tt,tt,tt,ff,ff] rfl rfl (any_of HT_.out (by kernel_rfl)) (fun _ _ _ h => h) (Or.inr ⟨by rfl,rfl⟩) ?_ ?_
       rotate_left
       ·simp only [Act.put,sA,sZ,sS,i64_w,i32_w]
        rfl
       refine pure_ (i:=23) (N:=some 36) (v:=undef) (a':=?_) #[tt,tt,tt,tt,tt,tt,tt,tt,tt,tt,tt,tt,tt,tt,tt,tt,tt,tt,tt,tt,tt,tt,tt,tt,ff] rfl rfl (any_of HT_.out (by kernel_rfl)) (fun _ _ _ h => h) (Or.inr ⟨by rfl,rfl⟩) ?_ ?_
       rotate_left
       ·simp only [Act.put,sA,sZ,sS,i64_w,i32_w]
        rfl
       refine pure_ (i:=24) (N:=some 37) (v:=?_) (a':=?_) #[tt,tt,tt,tt,tt,tt,tt,tt,tt,tt,tt,tt,tt,tt,tt,tt,tt,tt,tt,tt,tt,tt,tt,tt,tt] rfl rfl (any_of HT_.out (by kernel_rfl)) (fun _ _ _ h => h) (Or.inl ⟨by rfl,?_⟩) ?_ ?_
       rotate_left
       ·intro w'
        go_simp
        with_reducible rfl
       rotate_left
       ·simp only [Act.put,sA,sZ,sS,i64_w,i32_w]
        rfl
       refine done_ (done_of HT_.out (by kernel_rfl)) ?_
       try go_wp2
       go_ret
       exact ⟨by first|rfl|(simp [errW_none,errW_some] <;> rfl)|(simp [*,errW_none,errW_some] <;> rfl),by repeat (first|(with_reducible first|exact HB.out|apply bA|apply bN|apply bD|refine bS ?_ GE164.out|refine bS ?_ GE166.out)|exact HB.out)⟩
      ·rw [if_neg c7] at H
       have c7b0 : (((rd_T51 l0_0 x8_1).f0) == 0) = false:=beq_eq_false_iff_ne.mpr c7
       have c7b1 : (((rd_T51 l0_0 x8_1).f0) != 0) = true:=bne_iff_ne.mpr c7
       by_cases c13 : x8_1 > 0
       ·rw [if_pos c13] at H
        have c13b0 : decide (0 < x8_1) = true:=decide_eq_true c13
        clear c13
        obtain ⟨ji14,hji14⟩ : ∃ j_ : Int,(wrap64 (x8_1 - 1)) = j_:=⟨_,rfl⟩
        replace H : (if 0 ≤ (ji14) then (if (ji14) < (l0_0.length : Int) then (if ((rd_T51 l0_0 (ji14)).f0) ≥ ((rd_T51 l0_0 x8_1).f0) then (some false) else ((gazetteerref09_Box.f ((rd_T51 l0_0 x8_1).f1.f0) ((rd_T51 l0_0 x8_1).f1.f1) ((rd_T51 l0_0 x8_1).f1.f2) ((rd_T51 l0_0 x8_1).f1.f3)).bind fun t168 => (if t168 = true then (gazetteerref22_Right.l0 k1 l0_0 (l0_0.length : Int) (wrap64 (x8_1+1)) l0_0) else (some false)))) else (none)) else (none)) = some r:=by first|(rw [hji14] at H;exact H)|(simp only [hji14] at H ⊢;exact H)
        have hji14w : (IntKind.i64.wrap (x8_1 - 1)) = ji14:=(i64_w _).trans hji14
        by_cases c15 : 0 ≤ (ji14)
        ·rw [if_pos c15] at H
         have c15b0 : decide (0 ≤ (ji14)) = true:=decide_eq_true c15
         clear c15
         by_cases c16 : (ji14) < (l0_0.length : Int)
         ·rw [if_pos c16] at H
          have c16b0 : decide ((ji14) < (l0_0.length : Int)) = true:=decide_eq_true c16
          clear c16
          by_cases c17 : ((rd_T51 l0_0 (ji14)).f0) ≥ ((rd_T51 l0_0 x8_1).f0)
          ·rw [if_pos c17] at H
           have c17b0 : decide (((rd_T51 l0_0 x8_1).f0) ≤ ((rd_T51 l0_0 (ji14)).f0)) = true:=decide_eq_true c17
           clear c17
           obtain rfl:=Option.some.inj H
           have p165 : 0 ≤ (x8_1 : Int):=of_decide_eq_true (by first|(with_reducible assumption)|assumption)
           have q165 : x8_1 < (l0_0.length : Int):=of_decide_eq_true (by first|(with_reducible assumption)|assumption)
           obtain ⟨ad165,e165,hx165_0,hx165_1,hx165_2,hx165_3,hx165_4,hx165_5⟩:=at_T51 HR0_0.out x8_1 p165 q165
           cases e165
           replace hx165_0:=(HB.out.cell (World.block_lt_of_cell? w _ hx165_0)).trans hx165_0
           replace hx165_1:=(HB.out.cell (World.block_lt_of_cell? w _ hx165_1)).trans hx165_1
           replace hx165_2:=(HB.out.cell (World.block_lt_of_cell? w _ hx165_2)).trans hx165_2
           replace hx165_3:=(HB.out.cell (World.block_lt_of_cell? w _ hx165_3)).trans hx165_3
           replace hx165_4:=(HB.out.cell (World.block_lt_of_cell? w _ hx165_4)).trans hx165_4
           replace hx165_5:=(HB.out.cell (World.block_lt_of_cell? w _ hx165_5)).trans hx165_5
           replace p165:=eq_true p165
           replace q165:=eq_true q165
           try go_wp2_with (first|((with_reducible refine gate_dst (N:=4) rfl ?_);refine box_event ?hg (N:=4) ?hd (cs:=#[.int .u32 0,.int .i64 0,.int .i64 0,.int .i64 0,.int .i64 0,.int .i64 0]) (t:=51) ?hr ?_;(case hd => rfl);(case hg => rfl);(case hr => first|(go_simp;done)|(go_simp;rfl));intro gb166 hg w18 hbox hb;have n0_:=Ak (kB (g:=gb164) (o:=.cells #[.slice (some ad165) l0_0.length c0_0] 24 (0,0)) (by (with_reducible repeat (first|refine kN ?_ _|refine kD ?_|refine kA ?_ _));exact BK164.out) hb);have n1_:=Ak (below_step (by repeat (first|(with_reducible first|exact HB.out|apply bA|apply bN|apply bD|refine bS ?_ GE164.out)|exact HB.out)) hb);have n2_:=Ak (hbox);have n3_:=Ak ((by rw [hg];exact (below_size (by repeat (first|(with_reducible first|exact HB.out|apply bA|apply bN|apply bD|refine bS ?_ GE164.out)|exact HB.out))) : w.heap.size ≤ gb166));have n4_:=Ak ((by rw [hg];exact (below_size (by repeat (first|(with_reducible first|exact HB.out|apply bA|apply bN|apply bD|refine bS ?_ GE164.out)|exact HB.out))) : w.heap.size ≤ gb166));have n5_:=Ak ((by rw [hg];exact Nat.ne_of_lt (blk_lt (g:=gb164) (o:=.cells #[.slice (some ad165) l0_0.length c0_0] 24 (0,0)) (by (with_reducible repeat (first|refine kN ?_ _|refine kD ?_|refine kA ?_ _));exact BK164.out)) : gb164 ≠ gb166));have n6_:=Ak ((by rw [hg];exact Nat.ne_of_gt (blk_lt (g:=gb164) (o:=.cells #[.slice (some ad165) l0_0.length c0_0] 24 (0,0)) (by (with_reducible repeat (first|refine kN ?_ _|refine kD ?_|refine kA ?_ _));exact BK164.out)) : gb166 ≠ gb164));clear BK164;clear HB;have BK164:=n0_;have HB:=n1_;have BK166:=n2_;have GW166:=n3_;have GE166:=n4_;have NB164_166:=n5_;have NB166_164:=n6_;clear n0_ n1_ n2_ n3_ n4_ n5_ n6_;clear hb hbox hg;have hnb19:=NB166_164.out;have hnc19:=NB164_166.out;have hcz20_0 : w18.cell? ⟨gb166,0,none⟩ = some (.int .u32 0):=(kC BK166.out 0).trans rfl;have hcz20_1 : w18.cell? ⟨gb166,1,none⟩ = some (.int .i64 0):=(kC BK166.out 1).trans rfl;have hcz20_2 : w18.cell? ⟨gb166,2,none⟩ = some (.int .i64 0):=(kC BK166.out 2).trans rfl;have hcz20_3 : w18.cell? ⟨gb166,3,none⟩ = some (.int .i64 0):=(kC BK166.out 3).trans rfl;have hcz20_4 : w18.cell? ⟨gb166,4,none⟩ = some (.int .i64 0):=(kC BK166.out 4).trans rfl;have hcz20_5 : w18.cell? ⟨gb166,5,none⟩ = some (.int .i64 0):=(kC BK166.out 5).trans rfl;have hfz20_0:=blk_frozen BK166.out 0;have hfz20_1:=blk_frozen BK166.out 1;have hfz20_2:=blk_frozen BK166.out 2;have hfz20_3:=blk_frozen BK166.out 3;have hfz20_4:=blk_frozen BK166.out 4;have hfz20_5:=blk_frozen BK166.out 5))
           have n0_ : Aside0 (((((((w18.setCell ⟨gb166,0,none⟩ (.int .u32 ((rd_T51 l0_0 x8_1).f0))).setCell ⟨gb166,1,none⟩ (.int .i64 ((rd_T51 l0_0 x8_1).f1.f0))).setCell ⟨gb166,2,none⟩ (.int .i64 ((rd_T51 l0_0 x8_1).f1.f1))).setCell ⟨gb166,3,none⟩ (.int .i64 ((rd_T51 l0_0 x8_1).f1.f2))).setCell ⟨gb166,4,none⟩ (.int .i64 ((rd_T51 l0_0 x8_1).f1.f3))).setCell ⟨gb166,5,none⟩ (.int .i64 ((rd_T51 l0_0 x8_1).f2))).heap[gb164]? = some (.cells #[.slice (some ad165) l0_0.length c0_0] 24 (0,0))):=⟨by (with_reducible repeat (first|refine kN ?_ _|refine kD ?_|refine kA ?_ _));refine blk_far ?_ NB164_166.out _;(with_reducible repeat (first|refine kN ?_ _|refine kD ?_|refine kA ?_ _));refine blk_far ?_ NB164_166.out _;(with_reducible repeat (first|refine kN ?_ _|refine kD ?_|refine kA ?_ _));refine blk_far ?_ NB164_166.out _;(with_reducible repeat (first|refine kN ?_ _|refine kD ?_|refine kA ?_ _));refine blk_far ?_ NB164_166.out _;(with_reducible repeat (first|refine kN ?_ _|refine kD ?_|refine kA ?_ _));refine blk_far ?_ NB164_166.out _;(with_reducible repeat (first|refine kN ?_ _|refine kD ?_|refine kA ?_ _));refine blk_far ?_ NB164_166.out _;(with_reducible repeat (first|refine kN ?_ _|refine kD ?_|refine kA ?_ _));exact BK164.out⟩
           have n1_ : Aside0 (((((((w18.setCell ⟨gb166,0,none⟩ (.int .u32 ((rd_T51 l0_0 x8_1).f0))).setCell ⟨gb166,1,none⟩ (.int .i64 ((rd_T51 l0_0 x8_1).f1.f0))).setCell ⟨gb166,2,none⟩ (.int .i64 ((rd_T51 l0_0 x8_1).f1.f1))).setCell ⟨gb166,3,none⟩ (.int .i64 ((rd_T51 l0_0 x8_1).f1.f2))).setCell ⟨gb166,4,none⟩ (.int .i64 ((rd_T51 l0_0 x8_1).f1.f3))).setCell ⟨gb166,5,none⟩ (.int .i64 ((rd_T51 l0_0 x8_1).f2))).heap[gb166]? = some (.cells #[.int .u32 ((rd_T51 l0_0 x8_1).f0),.int .i64 ((rd_T51 l0_0 x8_1).f1.f0),.int .i64 ((rd_T51 l0_0 x8_1).f1.f1),.int .i64 ((rd_T51 l0_0 x8_1).f1.f2),.int .i64 ((rd_T51 l0_0 x8_1).f1.f3),.int .i64 ((rd_T51 l0_0 x8_1).f2)] 51 (0,0))):=⟨by (with_reducible repeat (first|refine kN ?_ _|refine kD ?_|refine kA ?_ _));refine blk_put (cs:=#[.int .u32 ((rd_T51 l0_0 x8_1).f0),.int .i64 ((rd_T51 l0_0 x8_1).f1.f0),.int .i64 ((rd_T51 l0_0 x8_1).f1.f1),.int .i64 ((rd_T51 l0_0 x8_1).f1.f2),.int .i64 ((rd_T51 l0_0 x8_1).f1.f3),.int .i64 0]) ?_ 5 _ rfl;(with_reducible repeat (first|refine kN ?_ _|refine kD ?_|refine kA ?_ _));refine blk_put (cs:=#[.int .u32 ((rd_T51 l0_0 x8_1).f0),.int .i64 ((rd_T51 l0_0 x8_1).f1.f0),.int .i64 ((rd_T51 l0_0 x8_1).f1.f1),.int .i64 ((rd_T51 l0_0 x8_1).f1.f2),.int .i64 0,.int .i64 0]) ?_ 4 _ rfl;(with_reducible repeat (first|refine kN ?_ _|refine kD ?_|refine kA ?_ _));refine blk_put (cs:=#[.int .u32 ((rd_T51 l0_0 x8_1).f0),.int .i64 ((rd_T51 l0_0 x8_1).f1.f0),.int .i64 ((rd_T51 l0_0 x8_1).f1.f1),.int .i64 0,.int .i64 0,.int .i64 0]) ?_ 3 _ rfl;(with_reducible repeat (first|refine kN ?_ _|refine kD ?_|refine kA ?_ _));refine blk_put (cs:=#[.int .u32 ((rd_T51 l0_0 x8_1).f0),.int .i64 ((rd_T51 l0_0 x8_1).f1.f0),.int .i64 0,.int .i64 0,.int .i64 0,.int .i64 0]) ?_ 2 _ rfl;(with_reducible repeat (first|refine kN ?_ _|refine kD ?_|refine kA ?_ _));refine blk_put (cs:=#[.int .u32 ((rd_T51 l0_0 x8_1).f0),.int .i64 0,.int .i64 0,.int .i64 0,.int .i64 0,.int .i64 0]) ?_ 1 _ rfl;(with_reducible repeat (first|refine kN ?_ _|refine kD ?_|refine kA ?_ _));refine blk_put (cs:=#[.int .u32 0,.int .i64 0,.int .i64 0,.int .i64 0,.int .i64 0,.int .i64 0]) ?_ 0 _ rfl;(with_reducible repeat (first|refine kN ?_ _|refine kD ?_|refine kA ?_ _));exact BK166.out⟩
           have n2_ : Aside0 (Below w.heap.size w ((((((w18.setCell ⟨gb166,0,none⟩ (.int .u32 ((rd_T51 l0_0 x8_1).f0))).setCell ⟨gb166,1,none⟩ (.int .i64 ((rd_T51 l0_0 x8_1).f1.f0))).setCell ⟨gb166,2,none⟩ (.int .i64 ((rd_T51 l0_0 x8_1).f1.f1))).setCell ⟨gb166,3,none⟩ (.int .i64 ((rd_T51 l0_0 x8_1).f1.f2))).setCell ⟨gb166,4,none⟩ (.int .i64 ((rd_T51 l0_0 x8_1).f1.f3))).setCell ⟨gb166,5,none⟩ (.int .i64 ((rd_T51 l0_0 x8_1).f2)))):=⟨by repeat (first|(with_reducible first|exact HB.out|apply bA|apply bN|apply bD|refine bS ?_ GE164.out|refine bS ?_ GE166.out)|exact HB.out)⟩
           (try clear BK164)
           (try clear BK166)
           (try clear HB)
           generalize ((((((w18.setCell ⟨gb166,0,none⟩ (.int .u32 ((rd_T51 l0_0 x8_1).f0))).setCell ⟨gb166,1,none⟩ (.int .i64 ((rd_T51 l0_0 x8_1).f1.f0))).setCell ⟨gb166,2,none⟩ (.int .i64 ((rd_T51 l0_0 x8_1).f1.f1))).setCell ⟨gb166,3,none⟩ (.int .i64 ((rd_T51 l0_0 x8_1).f1.f2))).setCell ⟨gb166,4,none⟩ (.int .i64 ((rd_T51 l0_0 x8_1).f1.f3))).setCell ⟨gb166,5,none⟩ (.int .i64 ((rd_T51 l0_0 x8_1).f2))) = w21 at n0_ n1_ n2_ ⊢
           have BK164:=n0_
           have BK166:=n1_
           have HB:=n2_
           clear n0_ n1_ n2_
           have n0_:=Ak (kD BK164.out)
           have n1_:=Ak (kD BK166.out)
           have n2_:=Ak (bD HB.out)
           clear BK164
           clear BK166
           clear HB
           have BK164:=n0_
           have BK166:=n1_
           have HB:=n2_
           clear n0_ n1_ n2_
           have p167 : 0 ≤ ((ji14) : Int):=of_decide_eq_true (by first|(with_reducible assumption)|assumption)
           have q167 : (ji14) < (l0_0.length : Int):=of_decide_eq_true (by first|(with_reducible assumption)|assumption)
           obtain ⟨ad167,e167,hx167_0,hx167_1,hx167_2,hx167_3,hx167_4,hx167_5⟩:=at_T51 HR0_0.out (ji14) p167 q167
           have hw167_5:=hx167_5
           have hw167_4:=hx167_4
           have hw167_3:=hx167_3
           have hw167_2:=hx167_2
           have hw167_1:=hx167_1
           have hw167_0:=hx167_0
           obtain rfl : ad165 = ad167:=(by injection e167)
           replace hx167_0:=(HB.out.cell (World.block_lt_of_cell? w _ hx167_0)).trans hx167_0
           replace hx167_1:=(HB.out.cell (World.block_lt_of_cell? w _ hx167_1)).trans hx167_1
           replace hx167_2:=(HB.out.cell (World.block_lt_of_cell? w _ hx167_2)).trans hx167_2
           replace hx167_3:=(HB.out.cell (World.block_lt_of_cell? w _ hx167_3)).trans hx167_3
           replace hx167_4:=(HB.out.cell (World.block_lt_of_cell? w _ hx167_4)).trans hx167_4
           replace hx167_5:=(HB.out.cell (World.block_lt_of_cell? w _ hx167_5)).trans hx167_5
           replace p167:=eq_true p167
           replace q167:=eq_true q167
           refine start_ (n:=25) (S:=fun w' => w'.cell? ⟨gb166,0,none⟩ = some (.int .u32 ((rd_T51 l0_0 x8_1).f0))∧w'.cell? ⟨gb166,1,none⟩ = some (.int .i64 ((rd_T51 l0_0 x8_1).f1.f0))∧w'.cell? ⟨gb166,2,none⟩ = some (.int .i64 ((rd_T51 l0_0 x8_1).f1.f1))∧w'.cell? ⟨gb166,3,none⟩ = some (.int .i64 ((rd_T51 l0_0 x8_1).f1.f2))∧w'.cell? ⟨gb166,4,none⟩ = some (.int .i64 ((rd_T51 l0_0 x8_1).f1.f3))∧w'.cell? ⟨gb166,5,none⟩ = some (.int .i64 ((rd_T51 l0_0 x8_1).f2))∧w'.cell? ⟨gb164,0,none⟩ = some (.slice (some ad165) l0_0.length c0_0)∧w'.cell? (ad165.add (((ji14)).toNat*6)) = some (.int .u32 ((rd_T51 l0_0 (ji14)).f0))∧w'.cell? ⟨(ad165.add (((ji14)).toNat*6)).block,(ad165.add (((ji14)).toNat*6)).off+1,none⟩ = some (.int .i64 ((rd_T51 l0_0 (ji14)).f1.f0))∧w'.cell? ⟨(ad165.add (((ji14)).toNat*6)).block,(ad165.add (((ji14)).toNat*6)).off+2,none⟩ = some (.int .i64 ((rd_T51 l0_0 (ji14)).f1.f1))∧w'.cell? ⟨(ad165.add (((ji14)).toNat*6)).block,(ad165.add (((ji14)).toNat*6)).off+3,none⟩ = some (.int .i64 ((rd_T51 l0_0 (ji14)).f1.f2))∧w'.cell? ⟨(ad165.add (((ji14)).toNat*6)).block,(ad165.add (((ji14)).toNat*6)).off+4,none⟩ = some (.int .i64 ((rd_T51 l0_0 (ji14)).f1.f3))∧w'.cell? ⟨(ad165.add (((ji14)).toNat*6)).block,(ad165.add (((ji14)).toNat*6)).off+5,none⟩ = some (.int .i64 ((rd_T51 l0_0 (ji14)).f2))) (ds:=[]) #[ff,ff,ff,ff,ff,ff,ff,ff,ff,ff,ff,ff,ff,ff,ff,ff,ff,ff,ff,ff,ff,ff,ff,ff,ff] (by kernel_rfl) rfl rfl ⟨(kC BK166.out 0).trans rfl,(kC BK166.out 1).trans rfl,(kC BK166.out 2).trans rfl,(kC BK166.out 3).trans rfl,(kC BK166.out 4).trans rfl,(kC BK166.out 5).trans rfl,(kC BK164.out 0).trans rfl,((HB.out.cell (World.block_lt_of_cell? w _ hw167_0)).trans hw167_0),((HB.out.cell (World.block_lt_of_cell? w _ hw167_1)).trans hw167_1),((HB.out.cell (World.block_lt_of_cell? w _ hw167_2)).trans hw167_2),((HB.out.cell (World.block_lt_of_cell? w _ hw167_3)).trans hw167_3),((HB.out.cell (World.block_lt_of_cell? w _ hw167_4)).trans hw167_4),((HB.out.cell (World.block_lt_of_cell? w _ hw167_5)).trans hw167_5)⟩ (fun hHeld => ?_);refine with_tabW gazetteerref22_Right.tab4 gazetteerref22_Right.bits4 (fun HT_ HW_ => ?_)
           generalize w21.drew = w22 at BK164 BK166 HB hx167_0 hx167_1 hx167_2 hx167_3 hx167_4 hx167_5 hHeld ⊢
           refine pure_ (i:=0) (N:=some 13) (v:=?_) (a':=?_) #[tt,ff,ff,ff,ff,ff,ff,ff,ff,ff,ff,ff,ff,ff,ff,ff,ff,ff,ff,ff,ff,ff,ff,ff,ff] rfl rfl (any_of HT_.out (by kernel_rfl)) (fun _ _ _ h => h) (Or.inl ⟨by rfl,?_⟩) ?_ ?_
           rotate_left
           ·intro w'
            go_simp
            with_reducible rfl
           rotate_left
           ·simp only [Act.put,sA,sZ,sS,i64_w,i32_w]
            rfl
           refine take_ (i:=1) (N:=some 14) (v:=?_) (a':=?_) #[tt,tt,ff,ff,ff,ff,ff,ff,ff,ff,ff,ff,ff,ff,ff,ff,ff,ff,ff,ff,ff,ff,ff,ff,ff] rfl rfl (take_ofW HT_.out HW_.out (by kernel_rfl)) (fun _ _ _ h => h) (Or.inl ⟨by rfl,?_⟩) hHeld ?_ ?_
           rotate_left
           ·rintro w' ⟨s0,s1,s2,s3,s4,s5,s6,s7,s8,s9,s10,s11,s12⟩
            go_simp
            with_reducible rfl
           rotate_left
           ·simp only [Act.put,sA,sZ,sS,i64_w,i32_w]
            rfl
           refine pure_ (i:=2) (N:=some 15) (v:=?_) (a':=?_) #[tt,tt,tt,ff,ff,ff,ff,ff,ff,ff,ff,ff,ff,ff,ff,ff,ff,ff,ff,ff,ff,ff,ff,ff,ff] rfl rfl (any_of HT_.out (by kernel_rfl)) (fun _ _ _ h => h) (Or.inl ⟨by rfl,?_⟩) ?_ ?_
           rotate_left
           ·intro w'
            go_simp
            with_reducible rfl
           rotate_left
           ·simp only [Act.put,sA,sZ,sS,i64_w,i32_w]
            rfl
           refine pure_ (i:=3) (N:=some 16) (v:=?_) (a':=?_) #[tt,tt,tt,tt,ff,ff,ff,ff,ff,ff,ff,ff,ff,ff,ff,ff,ff,ff,ff,ff,ff,ff,ff,ff,ff] rfl rfl (any_of HT_.out (by kernel_rfl)) (fun _ _ _ h => h) (Or.inl ⟨by rfl,?_⟩) ?_ ?_
           rotate_left
           ·intro w'
            go_simp
            with_reducible rfl
           rotate_left
           ·simp only [Act.put,sA,sZ,sS,i64_w,i32_w]
            rfl
           refine pure_ (i:=4) (N:=some 17) (v:=?_) (a':=?_) #[tt,tt,tt,tt,tt,ff,ff,ff,ff,ff,ff,ff,ff,ff,ff,ff,ff,ff,ff,ff,ff,ff,ff,ff,ff] rfl rfl (any_of HT_.out (by kernel_rfl)) (fun _ _ _ h => h) (Or.inl ⟨by rfl,?_⟩) ?_ ?_
           rotate_left
           ·intro w'
            go_simp
            with_reducible rfl
           rotate_left
           ·simp only [Act.put,sA,sZ,sS,i64_w,i32_w]
            rfl
           refine pure_ (i:=5) (N:=some 18) (v:=?_) (a':=?_) #[tt,tt,tt,tt,tt,tt,ff,ff,ff,ff,ff,ff,ff,ff,ff,ff,ff,ff,ff,ff,ff,ff,ff,ff,ff] rfl rfl (any_of HT_.out (by kernel_rfl)) (fun _ _ _ h => h) (Or.inl ⟨by rfl,?_⟩) ?_ ?_
           rotate_left
           ·intro w'
            go_simp
            with_reducible rfl
           rotate_left
           ·simp only [Act.put,sA,sZ,sS,i64_w,i32_w]
            rfl
           refine pure_ (i:=6) (N:=some 19) (v:=?_) (a':=?_) #[tt,tt,tt,tt,tt,tt,tt,ff,ff,ff,ff,ff,ff,ff,ff,ff,ff,ff,ff,ff,ff,ff,ff,ff,ff] rfl rfl (any_of HT_.out (by kernel_rfl)) (fun _ _ _ h => h) (Or.inl ⟨by rfl,?_⟩) ?_ ?_
           rotate_left
           ·intro w'
            go_simp
            with_reducible rfl
           rotate_left
           ·simp only [Act.put,sA,sZ,sS,i64_w,i32_w]
            rfl
           refine pure_ (i:=7) (N:=some 20) (v:=?_) (a':=?_) #[tt,tt,tt,tt,tt,tt,tt,tt,ff,ff,ff,ff,ff,ff,ff,ff,ff,ff,ff,ff,ff,ff,ff,ff,ff] rfl rfl (any_of HT_.out (by kernel_rfl)) (fun _ _ _ h => h) (Or.inl ⟨by rfl,?_⟩) ?_ ?_
           rotate_left
           ·intro w'
            go_simp
            with_reducible rfl
           rotate_left
           ·simp only [Act.put,sA,sZ,sS,i64_w,i32_w]
            rfl
           refine pure_ (i:=9) (N:=some 22) (v:=?_) (a':=?_) #[tt,tt,tt,tt,tt,tt,tt,tt,ff,tt,ff,ff,ff,ff,ff,ff,ff,ff,ff,ff,ff,ff,ff,ff,ff] rfl rfl (any_of HT_.out (by kernel_rfl)) (fun _ _ _ h => h) (Or.inl ⟨by rfl,?_⟩) ?_ ?_
           rotate_left
           ·intro w'
            go_simp
            with_reducible rfl
           rotate_left
           ·simp only [Act.put,sA,sZ,sS,i64_w,i32_w]
            rfl
           refine pure_ (i:=10) (N:=some 23) (v:=?_) (a':=?_) #[tt,tt,tt,tt,tt,tt,tt,tt,ff,tt,tt,ff,ff,ff,ff,ff,ff,ff,ff,ff,ff,ff,ff,ff,ff] rfl rfl (any_of HT_.out (by kernel_rfl)) (fun _ _ _ h => h) (Or.inl ⟨by rfl,?_⟩) ?_ ?_
           rotate_left
           ·intro w'
            go_simp
            with_reducible rfl
           rotate_left
           ·simp only [Act.put,sA,sZ,sS,i64_w,i32_w]
            rfl
           refine pure_ (i:=14) (N:=some 27) (v:=?_) (a':=?_) #[tt,tt,tt,tt,tt,tt,tt,tt,ff,tt,tt,ff,ff,ff,tt,ff,ff,ff,ff,ff,ff,ff,ff,ff,ff] rfl rfl (any_of HT_.out (by kernel_rfl)) (fun _ _ _ h => h) (Or.inl ⟨by rfl,?_⟩) ?_ ?_
           rotate_left
           ·intro w'
            go_simp
            with_reducible rfl
           rotate_left
           ·simp only [Act.put,sA,sZ,sS,i64_w,i32_w]
            rfl
           refine take_ (i:=8) (N:=some 21) (v:=?_) (a':=?_) #[tt,tt,tt,tt,tt,tt,tt,tt,tt,tt,tt,ff,ff,ff,tt,ff,ff,ff,ff,ff,ff,ff,ff,ff,ff] rfl rfl (take_ofW HT_.out HW_.out (by kernel_rfl)) (fun _ _ _ h => h) (Or.inl ⟨by rfl,?_⟩) hHeld ?_ ?_
           rotate_left
           ·rintro w' ⟨s0,s1,s2,s3,s4,s5,s6,s7,s8,s9,s10,s11,s12⟩
            go_simp
            with_reducible rfl
           rotate_left
           ·simp only [Act.put,sA,sZ,sS,i64_w,i32_w]
            rfl
           refine pure_ (i:=11) (N:=some 24) (v:=?_) (a':=?_) #[tt,tt,tt,tt,tt,tt,tt,tt,tt,tt,tt,tt,ff,ff,tt,ff,ff,ff,ff,ff,ff,ff,ff,ff,ff] rfl rfl (any_of HT_.out (by kernel_rfl)) (fun _ _ _ h => h) (Or.inl ⟨by rfl,?_⟩) ?_ ?_
           rotate_left
           ·intro w'
            go_simp
            with_reducible rfl
           rotate_left
           ·simp only [Act.put,sA,sZ,sS,i64_w,i32_w]
            rfl
           refine pure_ (i:=12) (N:=some 25) (v:=?_) (a':=?_) #[tt,tt,tt,tt,tt,tt,tt,tt,tt,tt,tt,tt,tt,ff,tt,ff,ff,ff,ff,ff,ff,ff,ff,ff,ff] rfl rfl (any_of HT_.out (by kernel_rfl)) (fun _ _ _ h => h) (Or.inl ⟨by rfl,?_⟩) ?_ ?_
           rotate_left
           ·intro w'
            go_simp
            with_reducible rfl
           rotate_left
           ·simp only [Act.put,sA,sZ,sS,i64_w,i32_w]
            rfl
           refine take_ (i:=13) (N:=some 26) (v:=?_) (a':=?_) #[tt,tt,tt,tt,tt,tt,tt,tt,tt,tt,tt,tt,tt,tt,tt,ff,ff,ff,ff,ff,ff,ff,ff,ff,ff] rfl rfl (take_ofW HT_.out HW_.out (by kernel_rfl)) (fun _ _ _ h => h) (Or.inl ⟨by rfl,?_⟩) hHeld ?_ ?_
           rotate_left
           ·rintro w' ⟨s0,s1,s2,s3,s4,s5,s6,s7,s8,s9,s10,s11,s12⟩
            go_simp
            with_reducible rfl
           rotate_left
           ·simp only [Act.put,sA,sZ,sS,i64_w,i32_w]
            rfl
           refine take_ (i:=15) (N:=some 28) (v:=?_) (a':=?_) #[tt,tt,tt,tt,tt,tt,tt,tt,tt,tt,tt,tt,tt,tt,tt,tt,ff,ff,ff,ff,ff,ff,ff,ff,ff] rfl rfl (take_ofW HT_.out HW_.out (by kernel_rfl)) (fun _ _ _ h => h) (Or.inl ⟨by rfl,?_⟩) hHeld ?_ ?_
           rotate_left
           ·rintro w' ⟨s0,s1,s2,s3,s4,s5,s6,s7,s8,s9,s10,s11,s12⟩
            go_simp
            with_reducible rfl
           rotate_left
           ·simp only [Act.put,sA,sZ,sS,i64_w,i32_w]
            rfl
           refine pure_ (i:=16) (N:=some 29) (v:=?_) (a':=?_) #[tt,tt,tt,tt,tt,tt,tt,tt,tt,tt,tt,tt,tt,tt,tt,tt,tt,ff,ff,ff,ff,ff,ff,ff,ff] rfl rfl (any_of HT_.out (by kernel_rfl)) (fun _ _ _ h => h) (Or.inl ⟨by rfl,?_⟩) ?_ ?_
           rotate_left
           ·intro w'
            go_simp
            with_reducible rfl
           rotate_left
           ·simp only [Act.put,sA,sZ,sS,i64_w,i32_w]
            rfl
           refine pure_ (i:=17) (N:=some 30) (v:=?_) (a':=?_) #[tt,tt,tt,tt,tt,tt,tt,tt,tt,tt,tt,tt,tt,tt,tt,tt,tt,tt,ff,ff,ff,ff,ff,ff,ff] rfl rfl (any_of HT_.out (by kernel_rfl)) (fun _ _ _ h => h) (Or.inl ⟨by rfl,?_⟩) ?_ ?_
           rotate_left
           ·intro w'
            go_simp
            with_reducible rfl
           rotate_left
           ·simp only [Act.put,sA,sZ,sS,i64_w,i32_w]
            rfl
           refine pure_ (i:=18) (N:=some 31) (v:=?_) (a':=?_) #[tt,tt,tt,tt,tt,tt,tt,tt,tt,tt,tt,tt,tt,tt,tt,tt,tt,tt,tt,ff,ff,ff,ff,ff,ff] rfl rfl (any_of HT_.out (by kernel_rfl)) (fun _ _ _ h => h) (Or.inl ⟨by rfl,?_⟩) ?_ ?_
           rotate_left
           ·intro w'
            go_simp
            with_reducible rfl
           rotate_left
           ·simp only [Act.put,sA,sZ,sS,i64_w,i32_w]
            rfl
           refine pure_ (i:=19) (N:=some 32) (v:=?_) (a':=?_) #[tt,tt,tt,tt,tt,tt,tt,tt,tt,tt,tt,tt,tt,tt,tt,tt,tt,tt,tt,tt,ff,ff,ff,ff,ff] rfl rfl (any_of HT_.out (by kernel_rfl)) (fun _ _ _ h => h) (Or.inl ⟨by rfl,?_⟩) ?_ ?_
           rotate_left
           ·intro w'
            go_simp
            with_reducible rfl
           rotate_left
           ·simp only [Act.put,sA,sZ,sS,i64_w,i32_w]
            rfl
           refine pure_ (i:=20) (N:=some 33) (v:=undef) (a':=?_) #[tt,tt,tt,tt,tt,tt,tt,tt,tt,tt,tt,tt,tt,tt,tt,tt,tt,tt,tt,tt,tt,ff,ff,ff,ff] rfl rfl (any_of HT_.out (by kernel_rfl)) (fun _ _ _ h => h) (Or.inr ⟨by rfl,rfl⟩) ?_ ?_
           rotate_left
           ·simp only [Act.put,sA,sZ,sS,i64_w,i32_w]
            rfl
           refine pure_ (i:=21) (N:=some 34) (v:=undef) (a':=?_) #[tt,tt,tt,tt,tt,tt,tt,tt,tt,tt,tt,tt,tt,tt,tt,tt,tt,tt,tt,tt,tt,tt,ff,ff,ff] rfl rfl (any_of HT_.out (by kernel_rfl)) (fun _ _ _ h => h) (Or.inr ⟨by rfl,rfl⟩) ?_ ?_
           rotate_left
           ·simp only [Act.put,sA,sZ,sS,i64_w,i32_w]
            rfl
           refine pure_ (i:=22) (N:=some 35) (v:=undef) (a':=?_) #[tt,tt,tt,tt,tt,tt,tt,tt,tt,tt,tt,tt,tt,tt,tt,tt,tt,tt,tt,tt,tt,tt,tt,ff,ff] rfl rfl (any_of HT_.out (by kernel_rfl)) (fun _ _ _ h => h) (Or.inr ⟨by rfl,rfl⟩) ?_ ?_
           rotate_left
           ·simp only [Act.put,sA,sZ,sS,i64_w,i32_w]
            rfl
           refine pure_ (i:=23) (N:=some 36) (v:=undef) (a':=?_) #[tt,tt,tt,tt,tt,tt,tt,tt,tt,tt,tt,tt,tt,tt,tt,tt,tt,tt,tt,tt,tt,tt,tt,tt,ff] rfl rfl (any_of HT_.out (by kernel_rfl)) (fun _ _ _ h => h) (Or.inr ⟨by rfl,rfl⟩) ?_ ?_
           rotate_left
           ·simp only [Act.put,sA,sZ,sS,i64_w,i32_w]
            rfl
           refine pure_ (i:=24) (N:=some 37) (v:=?_) (a':=?_) #[tt,tt,tt,tt,tt,tt,tt,tt,tt,tt,tt,tt,tt,tt,tt,tt,tt,tt,tt,tt,tt,tt,tt,tt,tt] rfl rfl (any_of HT_.out (by kernel_rfl)) (fun _ _ _ h => h) (Or.inl ⟨by rfl,?_⟩) ?_ ?_
           rotate_left
           ·intro w'
            go_simp
            with_reducible rfl
           rotate_left
           ·simp only [Act.put,sA,sZ,sS,i64_w,i32_w]
            rfl
           refine done_ (done_of HT_.out (by kernel_rfl)) ?_
           try go_wp2
           go_ret
           exact ⟨by first|rfl|(simp [errW_none,errW_some] <;> rfl)|(simp only [← hji14];first|rfl|(simp [errW_none,errW_some] <;> rfl))|(simp [*,errW_none,errW_some] <;> rfl),by repeat (first|(with_reducible first|exact HB.out|apply bA|apply bN|apply bD|refine bS ?_ GE164.out|refine bS ?_ GE166.out)|exact HB.out)⟩
          ·rw [if_neg c17] at H
           have c17b0 : decide (((rd_T51 l0_0 x8_1).f0) ≤ ((rd_T51 l0_0 (ji14)).f0)) = false:=decide_eq_false c17
           clear c17
           replace H:=Option.bind_eq_some_iff.mp H
           obtain ⟨t168,A230,H⟩:=H
           replace H : (if t168 = true then (gazetteerref22_Right.l0 k1 l0_0 (l0_0.length : Int) (wrap64 (x8_1+1)) l0_0) else (some false)) = some r:=H
           have A23:=Ak A230
           clear A230
           by_cases c24 : t168 = true
           ·subst c24
            have H1 : (gazetteerref22_Right.l0 k1 l0_0 (l0_0.length : Int) (wrap64 (x8_1+1)) l0_0) = some r:=by rw [if_pos rfl] at H;exact H
            clear H
            have H:=H1
            clear H1
            have H':=Ak H
            clear H
            have p165 : 0 ≤ (x8_1 : Int):=of_decide_eq_true (by first|(with_reducible assumption)|assumption)
            have q165 : x8_1 < (l0_0.length : Int):=of_decide_eq_true (by first|(with_reducible assumption)|assumption)
            obtain ⟨ad165,e165,hx165_0,hx165_1,hx165_2,hx165_3,hx165_4,hx165_5⟩:=at_T51 HR0_0.out x8_1 p165 q165
            cases e165
            replace hx165_0:=(HB.out.cell (World.block_lt_of_cell? w _ hx165_0)).trans hx165_0
            replace hx165_1:=(HB.out.cell (World.block_lt_of_cell? w _ hx165_1)).trans hx165_1
            replace hx165_2:=(HB.out.cell (World.block_lt_of_cell? w _ hx165_2)).trans hx165_2
            replace hx165_3:=(HB.out.cell (World.block_lt_of_cell? w _ hx165_3)).trans hx165_3
            replace hx165_4:=(HB.out.cell (World.block_lt_of_cell? w _ hx165_4)).trans hx165_4
            replace hx165_5:=(HB.out.cell (World.block_lt_of_cell? w _ hx165_5)).trans hx165_5
            replace p165:=eq_true p165
            replace q165:=eq_true q165
            try go_wp2_with (first|((with_reducible refine gate_dst (N:=4) rfl ?_);refine box_event ?hg (N:=4) ?hd (cs:=#[.int .u32 0,.int .i64 0,.int .i64 0,.int .i64 0,.int .i64 0,.int .i64 0]) (t:=51) ?hr ?_;(case hd => rfl);(case hg => rfl);(case hr => first|(go_simp;done)|(go_simp;rfl));intro gb166 hg w25 hbox hb;have n0_:=Ak (kB (g:=gb164) (o:=.cells #[.slice (some ad165) l0_0.length c0_0] 24 (0,0)) (by (with_reducible repeat (first|refine kN ?_ _|refine kD ?_|refine kA ?_ _));exact BK164.out) hb);have n1_:=Ak (below_step (by repeat (first|(with_reducible first|exact HB.out|apply bA|apply bN|apply bD|refine bS ?_ GE164.out)|exact HB.out)) hb);have n2_:=Ak (hbox);have n3_:=Ak ((by rw [hg];exact (below_size (by repeat (first|(with_reducible first|exact HB.out|apply bA|apply bN|apply bD|refine bS ?_ GE164.out)|exact HB.out))) : w.heap.size ≤ gb166));have n4_:=Ak ((by rw [hg];exact (below_size (by repeat (first|(with_reducible first|exact HB.out|apply bA|apply bN|apply bD|refine bS ?_ GE164.out)|exact HB.out))) : w.heap.size ≤ gb166));have n5_:=Ak ((by rw [hg];exact Nat.ne_of_lt (blk_lt (g:=gb164) (o:=.cells #[.slice (some ad165) l0_0.length c0_0] 24 (0,0)) (by (with_reducible repeat (first|refine kN ?_ _|refine kD ?_|refine kA ?_ _));exact BK164.out)) : gb164 ≠ gb166));have n6_:=Ak ((by rw [hg];exact Nat.ne_of_gt (blk_lt (g:=gb164) (o:=.cells #[.slice (some ad165) l0_0.length c0_0] 24 (0,0)) (by (with_reducible repeat (first|refine kN ?_ _|refine kD ?_|refine kA ?_ _));exact BK164.out)) : gb166 ≠ gb164));clear BK164;clear HB;have BK164:=n0_;have HB:=n1_;have BK166:=n2_;have GW166:=n3_;have GE166:=n4_;have NB164_166:=n5_;have NB166_164:=n6_;clear n0_ n1_ n2_ n3_ n4_ n5_ n6_;clear hb hbox hg;have hnb26:=NB166_164.out;have hnc26:=NB164_166.out;have hcz27_0 : w25.cell? ⟨gb166,0,none⟩ = some (.int .u32 0):=(kC BK166.out 0).trans rfl;have hcz27_1 : w25.cell? ⟨gb166,1,none⟩ = some (.int .i64 0):=(kC BK166.out 1).trans rfl;have hcz27_2 : w25.cell? ⟨gb166,2,none⟩ = some (.int .i64 0):=(kC BK166.out 2).trans rfl;have hcz27_3 : w25.cell? ⟨gb166,3,none⟩ = some (.int .i64 0):=(kC BK166.out 3).trans rfl;have hcz27_4 : w25.cell? ⟨gb166,4,none⟩ = some (.int .i64 0):=(kC BK166.out 4).trans rfl;have hcz27_5 : w25.cell? ⟨gb166,5,none⟩ = some (.int .i64 0):=(kC BK166.out 5).trans rfl;have hfz27_0:=blk_frozen BK166.out 0;have hfz27_1:=blk_frozen BK166.out 1;have hfz27_2:=blk_frozen BK166.out 2;have hfz27_3:=blk_frozen BK166.out 3;have hfz27_4:=blk_frozen BK166.out 4;have hfz27_5:=blk_frozen BK166.out 5))
            have n0_ : Aside0 (((((((w25.setCell ⟨gb166,0,none⟩ (.int .u32 ((rd_T51 l0_0 x8_1).f0))).setCell ⟨gb166,1,none⟩ (.int .i64 ((rd_T51 l0_0 x8_1).f1.f0))).setCell ⟨gb166,2,none⟩ (.int .i64 ((rd_T51 l0_0 x8_1).f1.f1))).setCell ⟨gb166,3,none⟩ (.int .i64 ((rd_T51 l0_0 x8_1).f1.f2))).setCell ⟨gb166,4,none⟩ (.int .i64 ((rd_T51 l0_0 x8_1).f1.f3))).setCell ⟨gb166,5,none⟩ (.int .i64 ((rd_T51 l0_0 x8_1).f2))).heap[gb164]? = some (.cells #[.slice (some ad165) l0_0.length c0_0] 24 (0,0))):=⟨by (with_reducible repeat (first|refine kN ?_ _|refine kD ?_|refine kA ?_ _));refine blk_far ?_ NB164_166.out _;(with_reducible repeat (first|refine kN ?_ _|refine kD ?_|refine kA ?_ _));refine blk_far ?_ NB164_166.out _;(with_reducible repeat (first|refine kN ?_ _|refine kD ?_|refine kA ?_ _));refine blk_far ?_ NB164_166.out _;(with_reducible repeat (first|refine kN ?_ _|refine kD ?_|refine kA ?_ _));refine blk_far ?_ NB164_166.out _;(with_reducible repeat (first|refine kN ?_ _|refine kD ?_|refine kA ?_ _));refine blk_far ?_ NB164_166.out _;(with_reducible repeat (first|refine kN ?_ _|refine kD ?_|refine kA ?_ _));refine blk_far ?_ NB164_166.out _;(with_reducible repeat (first|refine kN ?_ _|refine kD ?_|refine kA ?_ _));exact BK164.out⟩
            have n1_ : Aside0 (((((((w25.setCell ⟨gb166,0,none⟩ (.int .u32 ((rd_T51 l0_0 x8_1).f0))).setCell ⟨gb166,1,none⟩ (.int .i64 ((rd_T51 l0_0 x8_1).f1.f0))).setCell ⟨gb166,2,none⟩ (.int .i64 ((rd_T51 l0_0 x8_1).f1.f1))).setCell ⟨gb166,3,none⟩ (.int .i64 ((rd_T51 l0_0 x8_1).f1.f2))).setCell ⟨gb166,4,none⟩ (.int .i64 ((rd_T51 l0_0 x8_1).f1.f3))).setCell ⟨gb166,5,none⟩ (.int .i64 ((rd_T51 l0_0 x8_1).f2))).heap[gb166]? = some (.cells #[.int .u32 ((rd_T51 l0_0 x8_1).f0),.int .i64 ((rd_T51 l0_0 x8_1).f1.f0),.int .i64 ((rd_T51 l0_0 x8_1).f1.f1),.int .i64 ((rd_T51 l0_0 x8_1).f1.f2),.int .i64 ((rd_T51 l0_0 x8_1).f1.f3),.int .i64 ((rd_T51 l0_0 x8_1).f2)] 51 (0,0))):=⟨by (with_reducible repeat (first|refine kN ?_ _|refine kD ?_|refine kA ?_ _));refine blk_put (cs:=#[.int .u32 ((rd_T51 l0_0 x8_1).f0),.int .i64 ((rd_T51 l0_0 x8_1).f1.f0),.int .i64 ((rd_T51 l0_0 x8_1).f1.f1),.int .i64 ((rd_T51 l0_0 x8_1).f1.f2),.int .i64 ((rd_T51 l0_0 x8_1).f1.f3),.int .i64 0]) ?_ 5 _ rfl;(with_reducible repeat (first|refine kN ?_ _|refine kD ?_|refine kA ?_ _));refine blk_put (cs:=#[.int .u32 ((rd_T51 l0_0 x8_1).f0),.int .i64 ((rd_T51 l0_0 x8_1).f1.f0),.int .i64 ((rd_T51 l0_0 x8_1).f1.f1),.int .i64 ((rd_T51 l0_0 x8_1).f1.f2),.int .i64 0,.int .i64 0]) ?_ 4 _ rfl;(with_reducible repeat (first|refine kN ?_ _|refine kD ?_|refine kA ?_ _));refine blk_put (cs:=#[.int .u32 ((rd_T51 l0_0 x8_1).f0),.int .i64 ((rd_T51 l0_0 x8_1).f1.f0),.int .i64 ((rd_T51 l0_0 x8_1).f1.f1),.int .i64 0,.int .i64 0,.int .i64 0]) ?_ 3 _ rfl;(with_reducible repeat (first|refine kN ?_ _|refine kD ?_|refine kA ?_ _));refine blk_put (cs:=#[.int .u32 ((rd_T51 l0_0 x8_1).f0),.int .i64 ((rd_T51 l0_0 x8_1).f1.f0),.int .i64 0,.int .i64 0,.int .i64 0,.int .i64 0]) ?_ 2 _ rfl;(with_reducible repeat (first|refine kN ?_ _|refine kD ?_|refine kA ?_ _));refine blk_put (cs:=#[.int .u32 ((rd_T51 l0_0 x8_1).f0),.int .i64 0,.int .i64 0,.int .i64 0,.int .i64 0,.int .i64 0]) ?_ 1 _ rfl;(with_reducible repeat (first|refine kN ?_ _|refine kD ?_|refine kA ?_ _));refine blk_put (cs:=#[.int .u32 0,.int .i64 0,.int .i64 0,.int .i64 0,.int .i64 0,.int .i64 0]) ?_ 0 _ rfl;(with_reducible repeat (first|refine kN ?_ _|refine kD ?_|refine kA ?_ _));exact BK166.out⟩
            have n2_ : Aside0 (Below w.heap.size w ((((((w25.setCell ⟨gb166,0,none⟩ (.int .u32 ((rd_T51 l0_0 x8_1).f0))).setCell ⟨gb166,1,none⟩ (.int .i64 ((rd_T51 l0_0 x8_1).f1.f0))).setCell ⟨gb166,2,none⟩ (.int .i64 ((rd_T51 l0_0 x8_1).f1.f1))).setCell ⟨gb166,3,none⟩ (.int .i64 ((rd_T51 l0_0 x8_1).f1.f2))).setCell ⟨gb166,4,none⟩ (.int .i64 ((rd_T51 l0_0 x8_1).f1.f3))).setCell ⟨gb166,5,none⟩ (.int .i64 ((rd_T51 l0_0 x8_1).f2)))):=⟨by repeat (first|(with_reducible first|exact HB.out|apply bA|apply bN|apply bD|refine bS ?_ GE164.out|refine bS ?_ GE166.out)|exact HB.out)⟩
            (try clear BK164)
            (try clear BK166)
            (try clear HB)
            generalize ((((((w25.setCell ⟨gb166,0,none⟩ (.int .u32 ((rd_T51 l0_0 x8_1).f0))).setCell ⟨gb166,1,none⟩ (.int .i64 ((rd_T51 l0_0 x8_1).f1.f0))).setCell ⟨gb166,2,none⟩ (.int .i64 ((rd_T51 l0_0 x8_1).f1.f1))).setCell ⟨gb166,3,none⟩ (.int .i64 ((rd_T51 l0_0 x8_1).f1.f2))).setCell ⟨gb166,4,none⟩ (.int .i64 ((rd_T51 l0_0 x8_1).f1.f3))).setCell ⟨gb166,5,none⟩ (.int .i64 ((rd_T51 l0_0 x8_1).f2))) = w28 at n0_ n1_ n2_ ⊢
            have BK164:=n0_
            have BK166:=n1_
            have HB:=n2_
            clear n0_ n1_ n2_
            have n0_:=Ak (kD BK164.out)
            have n1_:=Ak (kD BK166.out)
            have n2_:=Ak (bD HB.out)
            clear BK164
            clear BK166
            clear HB
            have BK164:=n0_
            have BK166:=n1_
            have HB:=n2_
            clear n0_ n1_ n2_
            have p167 : 0 ≤ ((ji14) : Int):=of_decide_eq_true (by first|(with_reducible assumption)|assumption)
            have q167 : (ji14) < (l0_0.length : Int):=of_decide_eq_true (by first|(with_reducible assumption)|assumption)
            obtain ⟨ad167,e167,hx167_0,hx167_1,hx167_2,hx167_3,hx167_4,hx167_5⟩:=at_T51 HR0_0.out (ji14) p167 q167
            have hw167_5:=hx167_5
            have hw167_4:=hx167_4
            have hw167_3:=hx167_3
            have hw167_2:=hx167_2
            have hw167_1:=hx167_1
            have hw167_0:=hx167_0
            obtain rfl : ad165 = ad167:=(by injection e167)
            replace hx167_0:=(HB.out.cell (World.block_lt_of_cell? w _ hx167_0)).trans hx167_0
            replace hx167_1:=(HB.out.cell (World.block_lt_of_cell? w _ hx167_1)).trans hx167_1
            replace hx167_2:=(HB.out.cell (World.block_lt_of_cell? w _ hx167_2)).trans hx167_2
            replace hx167_3:=(HB.out.cell (World.block_lt_of_cell? w _ hx167_3)).trans hx167_3
            replace hx167_4:=(HB.out.cell (World.block_lt_of_cell? w _ hx167_4)).trans hx167_4
            replace hx167_5:=(HB.out.cell (World.block_lt_of_cell? w _ hx167_5)).trans hx167_5
            replace p167:=eq_true p167
            replace q167:=eq_true q167
            refine start_ (n:=25) (S:=fun w' => w'.cell? ⟨gb166,0,none⟩ = some (.int .u32 ((rd_T51 l0_0 x8_1).f0))∧w'.cell? ⟨gb166,1,none⟩ = some (.int .i64 ((rd_T51 l0_0 x8_1).f1.f0))∧w'.cell? ⟨gb166,2,none⟩ = some (.int .i64 ((rd_T51 l0_0 x8_1).f1.f1))∧w'.cell? ⟨gb166,3,none⟩ = some (.int .i64 ((rd_T51 l0_0 x8_1).f1.f2))∧w'.cell? ⟨gb166,4,none⟩ = some (.int .i64 ((rd_T51 l0_0 x8_1).f1.f3))∧w'.cell? ⟨gb166,5,none⟩ = some (.int .i64 ((rd_T51 l0_0 x8_1).f2))∧w'.cell? ⟨gb164,0,none⟩ = some (.slice (some ad165) l0_0.length c0_0)∧w'.cell? (ad165.add (((ji14)).toNat*6)) = some (.int .u32 ((rd_T51 l0_0 (ji14)).f0))∧w'.cell? ⟨(ad165.add (((ji14)).toNat*6)).block,(ad165.add (((ji14)).toNat*6)).off+1,none⟩ = some (.int .i64 ((rd_T51 l0_0 (ji14)).f1.f0))∧w'.cell? ⟨(ad165.add (((ji14)).toNat*6)).block,(ad165.add (((ji14)).toNat*6)).off+2,none⟩ = some (.int .i64 ((rd_T51 l0_0 (ji14)).f1.f1))∧w'.cell? ⟨(ad165.add (((ji14)).toNat*6)).block,(ad165.add (((ji14)).toNat*6)).off+3,none⟩ = some (.int .i64 ((rd_T51 l0_0 (ji14)).f1.f2))∧w'.cell? ⟨(ad165.add (((ji14)).toNat*6)).block,(ad165.add (((ji14)).toNat*6)).off+4,none⟩ = some (.int .i64 ((rd_T51 l0_0 (ji14)).f1.f3))∧w'.cell? ⟨(ad165.add (((ji14)).toNat*6)).block,(ad165.add (((ji14)).toNat*6)).off+5,none⟩ = some (.int .i64 ((rd_T51 l0_0 (ji14)).f2))) (ds:=[]) #[ff,ff,ff,ff,ff,ff,ff,ff,ff,ff,ff,ff,ff,ff,ff,ff,ff,ff,ff,ff,ff,ff,ff,ff,ff] (by kernel_rfl) rfl rfl ⟨(kC BK166.out 0).trans rfl,(kC BK166.out 1).trans rfl,(kC BK166.out 2).trans rfl,(kC BK166.out 3).trans rfl,(kC BK166.out 4).trans rfl,(kC BK166.out 5).trans rfl,(kC BK164.out 0).trans rfl,((HB.out.cell (World.block_lt_of_cell? w _ hw167_0)).trans hw167_0),((HB.out.cell (World.block_lt_of_cell? w _ hw167_1)).trans hw167_1),((HB.out.cell (World.block_lt_of_cell? w _ hw167_2)).trans hw167_2),((HB.out.cell (World.block_lt_of_cell? w _ hw167_3)).trans hw167_3),((HB.out.cell (World.block_lt_of_cell? w _ hw167_4)).trans hw167_4),((HB.out.cell (World.block_lt_of_cell? w _ hw167_5)).trans hw167_5)⟩ (fun hHeld => ?_);refine with_tabW gazetteerref22_Right.tab4 gazetteerref22_Right.bits4 (fun HT_ HW_ => ?_)
            generalize w28.drew = w29 at BK164 BK166 HB hx167_0 hx167_1 hx167_2 hx167_3 hx167_4 hx167_5 hHeld ⊢
            refine pure_ (i:=0) (N:=some 13) (v:=?_) (a':=?_) #[tt,ff,ff,ff,ff,ff,ff,ff,ff,ff,ff,ff,ff,ff,ff,ff,ff,ff,ff,ff,ff,ff,ff,ff,ff] rfl rfl (any_of HT_.out (by kernel_rfl)) (fun _ _ _ h => h) (Or.inl ⟨by rfl,?_⟩) ?_ ?_
            rotate_left
            ·intro w'
             go_simp
             with_reducible rfl
            rotate_left
            ·simp only [Act.put,sA,sZ,sS,i64_w,i32_w]
             rfl
            refine take_ (i:=1) (N:=some 14) (v:=?_) (a':=?_) #[tt,tt,ff,ff,ff,ff,ff,ff,ff,ff,ff,ff,ff,ff,ff,ff,ff,ff,ff,ff,ff,ff,ff,ff,ff] rfl rfl (take_ofW HT_.out HW_.out (by kernel_rfl)) (fun _ _ _ h => h) (Or.inl ⟨by rfl,?_⟩) hHeld ?_ ?_
            rotate_left
            ·rintro w' ⟨s0,s1,s2,s3,s4,s5,s6,s7,s8,s9,s10,s11,s12⟩
             go_simp
             with_reducible rfl
            rotate_left
            ·simp only [Act.put,sA,sZ,sS,i64_w,i32_w]
             rfl
            refine pure_ (i:=2) (N:=some 15) (v:=?_) (a':=?_) #[tt,tt,tt,ff,ff,ff,ff,ff,ff,ff,ff,ff,ff,ff,ff,ff,ff,ff,ff,ff,ff,ff,ff,ff,ff] rfl rfl (any_of HT_.out (by kernel_rfl)) (fun _ _ _ h => h) (Or.inl ⟨by rfl,?_⟩) ?_ ?_
            rotate_left
            ·intro w'
             go_simp
             with_reducible rfl
            rotate_left
            ·simp only [Act.put,sA,sZ,sS,i64_w,i32_w]
             rfl
            refine pure_ (i:=3) (N:=some 16) (v:=?_) (a':=?_) #[tt,tt,tt,tt,ff,ff,ff,ff,ff,ff,ff,ff,ff,ff,ff,ff,ff,ff,ff,ff,ff,ff,ff,ff,ff] rfl rfl (any_of HT_.out (by kernel_rfl)) (fun _ _ _ h => h) (Or.inl ⟨by rfl,?_⟩) ?_ ?_
            rotate_left
            ·intro w'
             go_simp
             with_reducible rfl
            rotate_left
            ·simp only [Act.put,sA,sZ,sS,i64_w,i32_w]
             rfl
            refine pure_ (i:=4) (N:=some 17) (v:=?_) (a':=?_) #[tt,tt,tt,tt,tt,ff,ff,ff,ff,ff,ff,ff,ff,ff,ff,ff,ff,ff,ff,ff,ff,ff,ff,ff,ff] rfl rfl (any_of HT_.out (by kernel_rfl)) (fun _ _ _ h => h) (Or.inl ⟨by rfl,?_⟩) ?_ ?_
            rotate_left
            ·intro w'
             go_simp
             with_reducible rfl
            rotate_left
            ·simp only [Act.put,sA,sZ,sS,i64_w,i32_w]
             rfl
            refine pure_ (i:=5) (N:=some 18) (v:=?_) (a':=?_) #[tt,tt,tt,tt,tt,tt,ff,ff,ff,ff,ff,ff,ff,ff,ff,ff,ff,ff,ff,ff,ff,ff,ff,ff,ff] rfl rfl (any_of HT_.out (by kernel_rfl)) (fun _ _ _ h => h) (Or.inl ⟨by rfl,?_⟩) ?_ ?_
            rotate_left
            ·intro w'
             go_simp
             with_reducible rfl
            rotate_left
            ·simp only [Act.put,sA,sZ,sS,i64_w,i32_w]
             rfl
            refine pure_ (i:=6) (N:=some 19) (v:=?_) (a':=?_) #[tt,tt,tt,tt,tt,tt,tt,ff,ff,ff,ff,ff,ff,ff,ff,ff,ff,ff,ff,ff,ff,ff,ff,ff,ff] rfl rfl (any_of HT_.out (by kernel_rfl)) (fun _ _ _ h => h) (Or.inl ⟨by rfl,?_⟩) ?_ ?_
            rotate_left
            ·intro w'
             go_simp
             with_reducible rfl
            rotate_left
            ·simp only [Act.put,sA,sZ,sS,i64_w,i32_w]
             rfl
            refine pure_ (i:=7) (N:=some 20) (v:=?_) (a':=?_) #[tt,tt,tt,tt,tt,tt,tt,tt,ff,ff,ff,ff,ff,ff,ff,ff,ff,ff,ff,ff,ff,ff,ff,ff,ff] rfl rfl (any_of HT_.out (by kernel_rfl)) (fun _ _ _ h => h) (Or.inl ⟨by rfl,?_⟩) ?_ ?_
            rotate_left
            ·intro w'
             go_simp
             with_reducible rfl
            rotate_left
            ·simp only [Act.put,sA,sZ,sS,i64_w,i32_w]
             rfl
            refine pure_ (i:=9) (N:=some 22) (v:=?_) (a':=?_) #[tt,tt,tt,tt,tt,tt,tt,tt,ff,tt,ff,ff,ff,ff,ff,ff,ff,ff,ff,ff,ff,ff,ff,ff,ff] rfl rfl (any_of HT_.out (by kernel_rfl)) (fun _ _ _ h => h) (Or.inl ⟨by rfl,?_⟩) ?_ ?_
            rotate_left
            ·intro w'
             go_simp
             with_reducible rfl
            rotate_left
            ·simp only [Act.put,sA,sZ,sS,i64_w,i32_w]
             rfl
            refine pure_ (i:=10) (N:=some 23) (v:=?_) (a':=?_) #[tt,tt,tt,tt,tt,tt,tt,tt,ff,tt,tt,ff,ff,ff,ff,ff,ff,ff,ff,ff,ff,ff,ff,ff,ff] rfl rfl (any_of HT_.out (by kernel_rfl)) (fun _ _ _ h => h) (Or.inl ⟨by rfl,?_⟩) ?_ ?_
            rotate_left
            ·intro w'
             go_simp
             with_reducible rfl
            rotate_left
            ·simp only [Act.put,sA,sZ,sS,i64_w,i32_w]
             rfl
            refine pure_ (i:=14) (N:=some 27) (v:=?_) (a':=?_) #[tt,tt,tt,tt,tt,tt,tt,tt,ff,tt,tt,ff,ff,ff,tt,ff,ff,ff,ff,ff,ff,ff,ff,ff,ff] rfl rfl (any_of HT_.out (by kernel_rfl)) (fun _ _ _ h => h) (Or.inl ⟨by rfl,?_⟩) ?_ ?_
            rotate_left
            ·intro w'
             go_simp
             with_reducible rfl
            rotate_left
            ·simp only [Act.put,sA,sZ,sS,i64_w,i32_w]
             rfl
            refine take_ (i:=8) (N:=some 21) (v:=?_) (a':=?_) #[tt,tt,tt,tt,tt,tt,tt,tt,tt,tt,tt,ff,ff,ff,tt,ff,ff,ff,ff,ff,ff,ff,ff,ff,ff] rfl rfl (take_ofW HT_.out HW_.out (by kernel_rfl)) (fun _ _ _ h => h) (Or.inl ⟨by rfl,?_⟩) hHeld ?_ ?_
            rotate_left
            ·rintro w' ⟨s0,s1,s2,s3,s4,s5,s6,s7,s8,s9,s10,s11,s12⟩
             go_simp
             with_reducible rfl
            rotate_left
            ·simp only [Act.put,sA,sZ,sS,i64_w,i32_w]
             rfl
            refine pure_ (i:=11) (N:=some 24) (v:=?_) (a':=?_) #[tt,tt,tt,tt,tt,tt,tt,tt,tt,tt,tt,tt,ff,ff,tt,ff,ff,ff,ff,ff,ff,ff,ff,ff,ff] rfl rfl (any_of HT_.out (by kernel_rfl)) (fun _ _ _ h => h) (Or.inl ⟨by rfl,?_⟩) ?_ ?_
            rotate_left
            ·intro w'
             go_simp
             with_reducible rfl
            rotate_left
            ·simp only [Act.put,sA,sZ,sS,i64_w,i32_w]
             rfl
            refine pure_ (i:=12) (N:=some 25) (v:=?_) (a':=?_) #[tt,tt,tt,tt,tt,tt,tt,tt,tt,tt,tt,tt,tt,ff,tt,ff,ff,ff,ff,ff,ff,ff,ff,ff,ff] rfl rfl (any_of HT_.out (by kernel_rfl)) (fun _ _ _ h => h) (Or.inl ⟨by rfl,?_⟩) ?_ ?_
            rotate_left
            ·intro w'
             go_simp
             with_reducible rfl
            rotate_left
            ·simp only [Act.put,sA,sZ,sS,i64_w,i32_w]
             rfl
            refine take_ (i:=13) (N:=some 26) (v:=?_) (a':=?_) #[tt,tt,tt,tt,tt,tt,tt,tt,tt,tt,tt,tt,tt,tt,tt,ff,ff,ff,ff,ff,ff,ff,ff,ff,ff] rfl rfl (take_ofW HT_.out HW_.out (by kernel_rfl)) (fun _ _ _ h => h) (Or.inl ⟨by rfl,?_⟩) hHeld ?_ ?_
            rotate_left
            ·rintro w' ⟨s0,s1,s2,s3,s4,s5,s6,s7,s8,s9,s10,s11,s12⟩
             go_simp
             with_reducible rfl
            rotate_left
            ·simp only [Act.put,sA,sZ,sS,i64_w,i32_w]
             rfl
            refine take_ (i:=15) (N:=some 28) (v:=?_) (a':=?_) #[tt,tt,tt,tt,tt,tt,tt,tt,tt,tt,tt,tt,tt,tt,tt,tt,ff,ff,ff,ff,ff,ff,ff,ff,ff] rfl rfl (take_ofW HT_.out HW_.out (by kernel_rfl)) (fun _ _ _ h => h) (Or.inl ⟨by rfl,?_⟩) hHeld ?_ ?_
            rotate_left
            ·rintro w' ⟨s0,s1,s2,s3,s4,s5,s6,s7,s8,s9,s10,s11,s12⟩
             go_simp
             with_reducible rfl
            rotate_left
            ·simp only [Act.put,sA,sZ,sS,i64_w,i32_w]
             rfl
            refine pure_ (i:=16) (N:=some 29) (v:=?_) (a':=?_) #[tt,tt,tt,tt,tt,tt,tt,tt,tt,tt,tt,tt,tt,tt,tt,tt,tt,ff,ff,ff,ff,ff,ff,ff,ff] rfl rfl (any_of HT_.out (by kernel_rfl)) (fun _ _ _ h => h) (Or.inl ⟨by rfl,?_⟩) ?_ ?_
            rotate_left
            ·intro w'
             go_simp
             with_reducible rfl
            rotate_left
            ·simp only [Act.put,sA,sZ,sS,i64_w,i32_w]
             rfl
            refine pure_ (i:=17) (N:=some 30) (v:=?_) (a':=?_) #[tt,tt,tt,tt,tt,tt,tt,tt,tt,tt,tt,tt,tt,tt,tt,tt,tt,tt,ff,ff,ff,ff,ff,ff,ff] rfl rfl (any_of HT_.out (by kernel_rfl)) (fun _ _ _ h => h) (Or.inl ⟨by rfl,?_⟩) ?_ ?_
            rotate_left
            ·intro w'
             go_simp
             with_reducible rfl
            rotate_left
            ·simp only [Act.put,sA,sZ,sS,i64_w,i32_w]
             rfl
            refine pure_ (i:=18) (N:=some 31) (v:=?_) (a':=?_) #[tt,tt,tt,tt,tt,tt,tt,tt,tt,tt,tt,tt,tt,tt,tt,tt,tt,tt,tt,ff,ff,ff,ff,ff,ff] rfl rfl (any_of HT_.out (by kernel_rfl)) (fun _ _ _ h => h) (Or.inl ⟨by rfl,?_⟩) ?_ ?_
            rotate_left
            ·intro w'
             go_simp
             with_reducible rfl
            rotate_left
            ·simp only [Act.put,sA,sZ,sS,i64_w,i32_w]
             rfl
            refine pure_ (i:=19) (N:=some 32) (v:=?_) (a':=?_) #[tt,tt,tt,tt,tt,tt,tt,tt,tt,tt,tt,tt,tt,tt,tt,tt,tt,tt,tt,tt,ff,ff,ff,ff,ff] rfl rfl (any_of HT_.out (by kernel_rfl)) (fun _ _ _ h => h) (Or.inl ⟨by rfl,?_⟩) ?_ ?_
            rotate_left
            ·intro w'
             go_simp
             with_reducible rfl
            rotate_left
            ·simp only [Act.put,sA,sZ,sS,i64_w,i32_w]
             rfl
            refine pure_ (i:=20) (N:=some 33) (v:=?_) (a':=?_) #[tt,tt,tt,tt,tt,tt,tt,tt,tt,tt,tt,tt,tt,tt,tt,tt,tt,tt,tt,tt,tt,ff,ff,ff,ff] rfl rfl (any_of HT_.out (by kernel_rfl)) (fun _ _ _ h => h) (Or.inl ⟨by rfl,?_⟩) ?_ ?_
            rotate_left
            ·intro w'
             go_simp
             with_reducible rfl
            rotate_left
            ·simp only [Act.put,sA,sZ,sS,i64_w,i32_w]
             rfl
            refine take_ (i:=21) (N:=some 34) (v:=?_) (a':=?_) #[tt,tt,tt,tt,tt,tt,tt,tt,tt,tt,tt,tt,tt,tt,tt,tt,tt,tt,tt,tt,tt,tt,ff,ff,ff] rfl rfl (take_ofW HT_.out HW_.out (by kernel_rfl)) (fun _ _ _ h => h) (Or.inl ⟨by rfl,?_⟩) hHeld ?_ ?_
            rotate_left
            ·rintro w' ⟨s0,s1,s2,s3,s4,s5,s6,s7,s8,s9,s10,s11,s12⟩
             go_simp
             with_reducible rfl
            rotate_left
            ·simp only [Act.put,sA,sZ,sS,i64_w,i32_w]
             rfl
            refine one_ (i:=22) (N:=some 35) #[tt,tt,tt,tt,tt,tt,tt,tt,tt,tt,tt,tt,tt,tt,tt,tt,tt,tt,tt,tt,tt,tt,tt,ff,ff] rfl rfl (one_of HT_.out (by kernel_rfl)) (by decide) (fun K hK => ?_)
            refine goes_ Try.func26 (by kernel_rfl) rfl #[.agg #[.int .i64 ((rd_T51 l0_0 x8_1).f1.f0),.int .i64 ((rd_T51 l0_0 x8_1).f1.f1),.int .i64 ((rd_T51 l0_0 x8_1).f1.f2),.int .i64 ((rd_T51 l0_0 x8_1).f1.f3)]] (by rfl) rfl rfl (by (try simp only [List.map_toArray,List.map_cons,List.map_nil]);first|done|rfl|(simp only [List.length_drop,List.length_take];rfl)) ?_
            with_reducible refine (gazetteerref09_Box.calls ((rd_T51 l0_0 x8_1).f1.f0) ((rd_T51 l0_0 x8_1).f1.f1) ((rd_T51 l0_0 x8_1).f1.f2) ((rd_T51 l0_0 x8_1).f1.f3) true _ A23.out).mono ?_
            rintro e w30 ⟨rfl,hb⟩
            refine ⟨_,rfl,?_⟩
            have n0_:=Ak (kB (g:=gb164) (o:=.cells #[.slice (some ad165) l0_0.length c0_0] 24 (0,0)) (by (with_reducible repeat (first|refine kN ?_ _|refine kD ?_|refine kA ?_ _));exact BK164.out) hb)
            have n1_:=Ak (kB (g:=gb166) (o:=.cells #[.int .u32 ((rd_T51 l0_0 x8_1).f0),.int .i64 ((rd_T51 l0_0 x8_1).f1.f0),.int .i64 ((rd_T51 l0_0 x8_1).f1.f1),.int .i64 ((rd_T51 l0_0 x8_1).f1.f2),.int .i64 ((rd_T51 l0_0 x8_1).f1.f3),.int .i64 ((rd_T51 l0_0 x8_1).f2)] 51 (0,0)) (by (with_reducible repeat (first|refine kN ?_ _|refine kD ?_|refine kA ?_ _));exact BK166.out) hb)
            have n2_:=Ak (below_step (by repeat (first|(with_reducible first|exact HB.out|apply bA|apply bN|apply bD|refine bS ?_ GE164.out|refine bS ?_ GE166.out)|exact HB.out)) hb)
            clear BK164
            clear BK166
            clear HB
            have BK164:=n0_
            have BK166:=n1_
            have HB:=n2_
            clear n0_ n1_ n2_
            (try clear hb)
            (try clear hb2)
            (try clear hk)
            (try clear hi)
            refine hK.out _ _ ⟨(kC BK166.out 0).trans rfl,(kC BK166.out 1).trans rfl,(kC BK166.out 2).trans rfl,(kC BK166.out 3).trans rfl,(kC BK166.out 4).trans rfl,(kC BK166.out 5).trans rfl,(kC BK164.out 0).trans rfl,((HB.out.cell (World.block_lt_of_cell? w _ hw167_0)).trans hw167_0),((HB.out.cell (World.block_lt_of_cell? w _ hw167_1)).trans hw167_1),((HB.out.cell (World.block_lt_of_cell? w _ hw167_2)).trans hw167_2),((HB.out.cell (World.block_lt_of_cell? w _ hw167_3)).trans hw167_3),((HB.out.cell (World.block_lt_of_cell? w _ hw167_4)).trans hw167_4),((HB.out.cell (World.block_lt_of_cell? w _ hw167_5)).trans hw167_5)⟩ (fun hHeld => ?_)
            clear hK K
            refine norm_ (a':=?_) ?_ ?_
            rotate_left
            ·show Act.put _ (some 35) _ = _
             simp only [Act.put,sA,sZ,sS,i64_w,i32_w]
             rfl
            refine pure_ (i:=23) (N:=some 36) (v:=?_) (a':=?_) #[tt,tt,tt,tt,tt,tt,tt,tt,tt,tt,tt,tt,tt,tt,tt,tt,tt,tt,tt,tt,tt,tt,tt,tt,ff] rfl rfl (any_of HT_.out (by kernel_rfl)) (fun _ _ _ h => h) (Or.inl ⟨by rfl,?_⟩) ?_ ?_
            rotate_left
            ·intro w'
             go_simp
             with_reducible rfl
            rotate_left
            ·simp only [Act.put,sA,sZ,sS,i64_w,i32_w]
             rfl
            refine pure_ (i:=24) (N:=some 37) (v:=?_) (a':=?_) #[tt,tt,tt,tt,tt,tt,tt,tt,tt,tt,tt,tt,tt,tt,tt,tt,tt,tt,tt,tt,tt,tt,tt,tt,tt] rfl rfl (any_of HT_.out (by kernel_rfl)) (fun _ _ _ h => h) (Or.inl ⟨by rfl,?_⟩) ?_ ?_
            rotate_left
            ·intro w'
             go_simp
             with_reducible rfl
            rotate_left
            ·simp only [Act.put,sA,sZ,sS,i64_w,i32_w]
             rfl
            refine done_ (done_of HT_.out (by kernel_rfl)) ?_
            try go_wp2
            go_roundg k1
            case measure => have:=HK1.out;omega
            case rel => exact ⟨(wrap64 (x8_1+1)),(by first|rfl|(simp;done)|(simp [*];done)),H',⟨by have:=HK1.out;omega⟩,⟨by (with_reducible repeat (first|refine kN ?_ _|refine kD ?_|refine kA ?_ _));exact BK164.out⟩,⟨by repeat (first|(with_reducible first|exact HB.out|apply bA|apply bN|apply bD|refine bS ?_ GE164.out|refine bS ?_ GE166.out)|exact HB.out)⟩⟩
           ·replace c24:=Bool.eq_false_iff.mpr c24
            subst c24
            have H1 : (some false) = some r:=by rw [if_neg (show ¬ (false = true) by decide)] at H;exact H
            clear H
            have H:=H1
            clear H1
            obtain rfl:=Option.some.inj H
            have p165 : 0 ≤ (x8_1 : Int):=of_decide_eq_true (by first|(with_reducible assumption)|assumption)
            have q165 : x8_1 < (l0_0.length : Int):=of_decide_eq_true (by first|(with_reducible assumption)|assumption)
            obtain ⟨ad165,e165,hx165_0,hx165_1,hx165_2,hx165_3,hx165_4,hx165_5⟩:=at_T51 HR0_0.out x8_1 p165 q165
            cases e165
            replace hx165_0:=(HB.out.cell (World.block_lt_of_cell? w _ hx165_0)).trans hx165_0
            replace hx165_1:=(HB.out.cell (World.block_lt_of_cell? w _ hx165_1)).trans hx165_1
            replace hx165_2:=(HB.out.cell (World.block_lt_of_cell? w _ hx165_2)).trans hx165_2
            replace hx165_3:=(HB.out.cell (World.block_lt_of_cell? w _ hx165_3)).trans hx165_3
            replace hx165_4:=(HB.out.cell (World.block_lt_of_cell? w _ hx165_4)).trans hx165_4
            replace hx165_5:=(HB.out.cell (World.block_lt_of_cell? w _ hx165_5)).trans hx165_5
            replace p165:=eq_true p165
            replace q165:=eq_true q165
            try go_wp2_with (first|((with_reducible refine gate_dst (N:=4) rfl ?_);refine box_event ?hg (N:=4) ?hd (cs:=#[.int .u32 0,.int .i64 0,.int .i64 0,.int .i64 0,.int .i64 0,.int .i64 0]) (t:=51) ?hr ?_;(case hd => rfl);(case hg => rfl);(case hr => first|(go_simp;done)|(go_simp;rfl));intro gb166 hg w31 hbox hb;have n0_:=Ak (kB (g:=gb164) (o:=.cells #[.slice (some ad165) l0_0.length c0_0] 24 (0,0)) (by (with_reducible repeat (first|refine kN ?_ _|refine kD ?_|refine kA ?_ _));exact BK164.out) hb);have n1_:=Ak (below_step (by repeat (first|(with_reducible first|exact HB.out|apply bA|apply bN|apply bD|refine bS ?_ GE164.out)|exact HB.out)) hb);have n2_:=Ak (hbox);have n3_:=Ak ((by rw [hg];exact (below_size (by repeat (first|(with_reducible first|exact HB.out|apply bA|apply bN|apply bD|refine bS ?_ GE164.out)|exact HB.out))) : w.heap.size ≤ gb166));have n4_:=Ak ((by rw [hg];exact (below_size (by repeat (first|(with_reducible first|exact HB.out|apply bA|apply bN|apply bD|refine bS ?_ GE164.out)|exact HB.out))) : w.heap.size ≤ gb166));have n5_:=Ak ((by rw [hg];exact Nat.ne_of_lt (blk_lt (g:=gb164) (o:=.cells #[.slice (some ad165) l0_0.length c0_0] 24 (0,0)) (by (with_reducible repeat (first|refine kN ?_ _|refine kD ?_|refine kA ?_ _));exact BK164.out)) : gb164 ≠ gb166));have n6_:=Ak ((by rw [hg];exact Nat.ne_of_gt (blk_lt (g:=gb164) (o:=.cells #[.slice (some ad165) l0_0.length c0_0] 24 (0,0)) (by (with_reducible repeat (first|refine kN ?_ _|refine kD ?_|refine kA ?_ _));exact BK164.out)) : gb166 ≠ gb164));clear BK164;clear HB;have BK164:=n0_;have HB:=n1_;have BK166:=n2_;have GW166:=n3_;have GE166:=n4_;have NB164_166:=n5_;have NB166_164:=n6_;clear n0_ n1_ n2_ n3_ n4_ n5_ n6_;clear hb hbox hg;have hnb32:=NB166_164.out;have hnc32:=NB164_166.out;have hcz33_0 : w31.cell? ⟨gb166,0,none⟩ = some (.int .u32 0):=(kC BK166.out 0).trans rfl;have hcz33_1 : w31.cell? ⟨gb166,1,none⟩ = some (.int .i64 0):=(kC BK166.out 1).trans rfl;have hcz33_2 : w31.cell? ⟨gb166,2,none⟩ = some (.int .i64 0):=(kC BK166.out 2).trans rfl;have hcz33_3 : w31.cell? ⟨gb166,3,none⟩ = some (.int .i64 0):=(kC BK166.out 3).trans rfl;have hcz33_4 : w31.cell? ⟨gb166,4,none⟩ = some (.int .i64 0):=(kC BK166.out 4).trans rfl;have hcz33_5 : w31.cell? ⟨gb166,5,none⟩ = some (.int .i64 0):=(kC BK166.out 5).trans rfl;have hfz33_0:=blk_frozen BK166.out 0;have hfz33_1:=blk_frozen BK166.out 1;have hfz33_2:=blk_frozen BK166.out 2;have hfz33_3:=blk_frozen BK166.out 3;have hfz33_4:=blk_frozen BK166.out 4;have hfz33_5:=blk_frozen BK166.out 5))
            have n0_ : Aside0 (((((((w31.setCell ⟨gb166,0,none⟩ (.int .u32 ((rd_T51 l0_0 x8_1).f0))).setCell ⟨gb166,1,none⟩ (.int .i64 ((rd_T51 l0_0 x8_1).f1.f0))).setCell ⟨gb166,2,none⟩ (.int .i64 ((rd_T51 l0_0 x8_1).f1.f1))).setCell ⟨gb166,3,none⟩ (.int .i64 ((rd_T51 l0_0 x8_1).f1.f2))).setCell ⟨gb166,4,none⟩ (.int .i64 ((rd_T51 l0_0 x8_1).f1.f3))).setCell ⟨gb166,5,none⟩ (.int .i64 ((rd_T51 l0_0 x8_1).f2))).heap[gb164]? = some (.cells #[.slice (some ad165) l0_0.length c0_0] 24 (0,0))):=⟨by (with_reducible repeat (first|refine kN ?_ _|refine kD ?_|refine kA ?_ _));refine blk_far ?_ NB164_166.out _;(with_reducible repeat (first|refine kN ?_ _|refine kD ?_|refine kA ?_ _));refine blk_far ?_ NB164_166.out _;(with_reducible repeat (first|refine kN ?_ _|refine kD ?_|refine kA ?_ _));refine blk_far ?_ NB164_166.out _;(with_reducible repeat (first|refine kN ?_ _|refine kD ?_|refine kA ?_ _));refine blk_far ?_ NB164_166.out _;(with_reducible repeat (first|refine kN ?_ _|refine kD ?_|refine kA ?_ _));refine blk_far ?_ NB164_166.out _;(with_reducible repeat (first|refine kN ?_ _|refine kD ?_|refine kA ?_ _));refine blk_far ?_ NB164_166.out _;(with_reducible repeat (first|refine kN ?_ _|refine kD ?_|refine kA ?_ _));exact BK164.out⟩
            have n1_ : Aside0 (((((((w31.setCell ⟨gb166,0,none⟩ (.int .u32 ((rd_T51 l0_0 x8_1).f0))).setCell ⟨gb166,1,none⟩ (.int .i64 ((rd_T51 l0_0 x8_1).f1.f0))).setCell ⟨gb166,2,none⟩ (.int .i64 ((rd_T51 l0_0 x8_1).f1.f1))).setCell ⟨gb166,3,none⟩ (.int .i64 ((rd_T51 l0_0 x8_1).f1.f2))).setCell ⟨gb166,4,none⟩ (.int .i64 ((rd_T51 l0_0 x8_1).f1.f3))).setCell ⟨gb166,5,none⟩ (.int .i64 ((rd_T51 l0_0 x8_1).f2))).heap[gb166]? = some (.cells #[.int .u32 ((rd_T51 l0_0 x8_1).f0),.int .i64 ((rd_T51 l0_0 x8_1).f1.f0),.int .i64 ((rd_T51 l0_0 x8_1).f1.f1),.int .i64 ((rd_T51 l0_0 x8_1).f1.f2),.int .i64 ((rd_T51 l0_0 x8_1).f1.f3),.int .i64 ((rd_T51 l0_0 x8_1).f2)] 51 (0,0))):=⟨by (with_reducible repeat (first|refine kN ?_ _|refine kD ?_|refine kA ?_ _));refine blk_put (cs:=#[.int .u32 ((rd_T51 l0_0 x8_1).f0),.int .i64 ((rd_T51 l0_0 x8_1).f1.f0),.int .i64 ((rd_T51 l0_0 x8_1).f1.f1),.int .i64 ((rd_T51 l0_0 x8_1).f1.f2),.int .i64 ((rd_T51 l0_0 x8_1).f1.f3),.int .i64 0]) ?_ 5 _ rfl;(with_reducible repeat (first|refine kN ?_ _|refine kD ?_|refine kA ?_ _));refine blk_put (cs:=#[.int .u32 ((rd_T51 l0_0 x8_1).f0),.int .i64 ((rd_T51 l0_0 x8_1).f1.f0),.int .i64 ((rd_T51 l0_0 x8_1).f1.f1),.int .i64 ((rd_T51 l0_0 x8_1).f1.f2),.int .i64 0,.int .i64 0]) ?_ 4 _ rfl;(with_reducible repeat (first|refine kN ?_ _|refine kD ?_|refine kA ?_ _));refine blk_put (cs:=#[.int .u32 ((rd_T51 l0_0 x8_1).f0),.int .i64 ((rd_T51 l0_0 x8_1).f1.f0),.int .i64 ((rd_T51 l0_0 x8_1).f1.f1),.int .i64 0,.int .i64 0,.int .i64 0]) ?_ 3 _ rfl;(with_reducible repeat (first|refine kN ?_ _|refine kD ?_|refine kA ?_ _));refine blk_put (cs:=#[.int .u32 ((rd_T51 l0_0 x8_1).f0),.int .i64 ((rd_T51 l0_0 x8_1).f1.f0),.int .i64 0,.int .i64 0,.int .i64 0,.int .i64 0]) ?_ 2 _ rfl;(with_reducible repeat (first|refine kN ?_ _|refine kD ?_|refine kA ?_ _));refine blk_put (cs:=#[.int .u32 ((rd_T51 l0_0 x8_1).f0),.int .i64 0,.int .i64 0,.int .i64 0,.int .i64 0,.int .i64 0]) ?_ 1 _ rfl;(with_reducible repeat (first|refine kN ?_ _|refine kD ?_|refine kA ?_ _));refine blk_put (cs:=#[.int .u32 0,.int .i64 0,.int .i64 0,.int .i64 0,.int .i64 0,.int .i64 0]) ?_ 0 _ rfl;(with_reducible repeat (first|refine kN ?_ _|refine kD ?_|refine kA ?_ _));exact BK166.out⟩
            have n2_ : Aside0 (Below w.heap.size w ((((((w31.setCell ⟨gb166,0,none⟩ (.int .u32 ((rd_T51 l0_0 x8_1).f0))).setCell ⟨gb166,1,none⟩ (.int .i64 ((rd_T51 l0_0 x8_1).f1.f0))).setCell ⟨gb166,2,none⟩ (.int .i64 ((rd_T51 l0_0 x8_1).f1.f1))).setCell ⟨gb166,3,none⟩ (.int .i64 ((rd_T51 l0_0 x8_1).f1.f2))).setCell ⟨gb166,4,none⟩ (.int .i64 ((rd_T51 l0_0 x8_1).f1.f3))).setCell ⟨gb166,5,none⟩ (.int .i64 ((rd_T51 l0_0 x8_1).f2)))):=⟨by repeat (first|(with_reducible first|exact HB.out|apply bA|apply bN|apply bD|refine bS ?_ GE164.out|refine bS ?_ GE166.out)|exact HB.out)⟩
            (try clear BK164)
            (try clear BK166)
            (try clear HB)
            generalize ((((((w31.setCell ⟨gb166,0,none⟩ (.int .u32 ((rd_T51 l0_0 x8_1).f0))).setCell ⟨gb166,1,none⟩ (.int .i64 ((rd_T51 l0_0 x8_1).f1.f0))).setCell ⟨gb166,2,none⟩ (.int .i64 ((rd_T51 l0_0 x8_1).f1.f1))).setCell ⟨gb166,3,none⟩ (.int .i64 ((rd_T51 l0_0 x8_1).f1.f2))).setCell ⟨gb166,4,none⟩ (.int .i64 ((rd_T51 l0_0 x8_1).f1.f3))).setCell ⟨gb166,5,none⟩ (.int .i64 ((rd_T51 l0_0 x8_1).f2))) = w34 at n0_ n1_ n2_ ⊢
            have BK164:=n0_
            have BK166:=n1_
            have HB:=n2_
            clear n0_ n1_ n2_
            have n0_:=Ak (kD BK164.out)
            have n1_:=Ak (kD BK166.out)
            have n2_:=Ak (bD HB.out)
            clear BK164
            clear BK166
            clear HB
            have BK164:=n0_
            have BK166:=n1_
            have HB:=n2_
            clear n0_ n1_ n2_
            have p167 : 0 ≤ ((ji14) : Int):=of_decide_eq_true (by first|(with_reducible assumption)|assumption)
            have q167 : (ji14) < (l0_0.length : Int):=of_decide_eq_true (by first|(with_reducible assumption)|assumption)
            obtain ⟨ad167,e167,hx167_0,hx167_1,hx167_2,hx167_3,hx167_4,hx167_5⟩:=at_T51 HR0_0.out (ji14) p167 q167
            have hw167_5:=hx167_5
            have hw167_4:=hx167_4
            have hw167_3:=hx167_3
            have hw167_2:=hx167_2
            have hw167_1:=hx167_1
            have hw167_0:=hx167_0
            obtain rfl : ad165 = ad167:=(by injection e167)
            replace hx167_0:=(HB.out.cell (World.block_lt_of_cell? w _ hx167_0)).trans hx167_0
            replace hx167_1:=(HB.out.cell (World.block_lt_of_cell? w _ hx167_1)).trans hx167_1
            replace hx167_2:=(HB.out.cell (World.block_lt_of_cell? w _ hx167_2)).trans hx167_2
            replace hx167_3:=(HB.out.cell (World.block_lt_of_cell? w _ hx167_3)).trans hx167_3
            replace hx167_4:=(HB.out.cell (World.block_lt_of_cell? w _ hx167_4)).trans hx167_4
            replace hx167_5:=(HB.out.cell (World.block_lt_of_cell? w _ hx167_5)).trans hx167_5
            replace p167:=eq_true p167
            replace q167:=eq_true q167
            refine start_ (n:=25) (S:=fun w' => w'.cell? ⟨gb166,0,none⟩ = some (.int .u32 ((rd_T51 l0_0 x8_1).f0))∧w'.cell? ⟨gb166,1,none⟩ = some (.int .i64 ((rd_T51 l0_0 x8_1).f1.f0))∧w'.cell? ⟨gb166,2,none⟩ = some (.int .i64 ((rd_T51 l0_0 x8_1).f1.f1))∧w'.cell? ⟨gb166,3,none⟩ = some (.int .i64 ((rd_T51 l0_0 x8_1).f1.f2))∧w'.cell? ⟨gb166,4,none⟩ = some (.int .i64 ((rd_T51 l0_0 x8_1).f1.f3))∧w'.cell? ⟨gb166,5,none⟩ = some (.int .i64 ((rd_T51 l0_0 x8_1).f2))∧w'.cell? ⟨gb164,0,none⟩ = some (.slice (some ad165) l0_0.length c0_0)∧w'.cell? (ad165.add (((ji14)).toNat*6)) = some (.int .u32 ((rd_T51 l0_0 (ji14)).f0))∧w'.cell? ⟨(ad165.add (((ji14)).toNat*6)).block,(ad165.add (((ji14)).toNat*6)).off+1,none⟩ = some (.int .i64 ((rd_T51 l0_0 (ji14)).f1.f0))∧w'.cell? ⟨(ad165.add (((ji14)).toNat*6)).block,(ad165.add (((ji14)).toNat*6)).off+2,none⟩ = some (.int .i64 ((rd_T51 l0_0 (ji14)).f1.f1))∧w'.cell? ⟨(ad165.add (((ji14)).toNat*6)).block,(ad165.add (((ji14)).toNat*6)).off+3,none⟩ = some (.int .i64 ((rd_T51 l0_0 (ji14)).f1.f2))∧w'.cell? ⟨(ad165.add (((ji14)).toNat*6)).block,(ad165.add (((ji14)).toNat*6)).off+4,none⟩ = some (.int .i64 ((rd_T51 l0_0 (ji14)).f1.f3))∧w'.cell? ⟨(ad165.add (((ji14)).toNat*6)).block,(ad165.add (((ji14)).toNat*6)).off+5,none⟩ = some (.int .i64 ((rd_T51 l0_0 (ji14)).f2))) (ds:=[]) #[ff,ff,ff,ff,ff,ff,ff,ff,ff,ff,ff,ff,ff,ff,ff,ff,ff,ff,ff,ff,ff,ff,ff,ff,ff] (by kernel_rfl) rfl rfl ⟨(kC BK166.out 0).trans rfl,(kC BK166.out 1).trans rfl,(kC BK166.out 2).trans rfl,(kC BK166.out 3).trans rfl,(kC BK166.out 4).trans rfl,(kC BK166.out 5).trans rfl,(kC BK164.out 0).trans rfl,((HB.out.cell (World.block_lt_of_cell? w _ hw167_0)).trans hw167_0),((HB.out.cell (World.block_lt_of_cell? w _ hw167_1)).trans hw167_1),((HB.out.cell (World.block_lt_of_cell? w _ hw167_2)).trans hw167_2),((HB.out.cell (World.block_lt_of_cell? w _ hw167_3)).trans hw167_3),((HB.out.cell (World.block_lt_of_cell? w _ hw167_4)).trans hw167_4),((HB.out.cell (World.block_lt_of_cell? w _ hw167_5)).trans hw167_5)⟩ (fun hHeld => ?_);refine with_tabW gazetteerref22_Right.tab4 gazetteerref22_Right.bits4 (fun HT_ HW_ => ?_)
            generalize w34.drew = w35 at BK164 BK166 HB hx167_0 hx167_1 hx167_2 hx167_3 hx167_4 hx167_5 hHeld ⊢
            refine pure_ (i:=0) (N:=some 13) (v:=?_) (a':=?_) #[tt,ff,ff,ff,ff,ff,ff,ff,ff,ff,ff,ff,ff,ff,ff,ff,ff,ff,ff,ff,ff,ff,ff,ff,ff] rfl rfl (any_of HT_.out (by kernel_rfl)) (fun _ _ _ h => h) (Or.inl ⟨by rfl,?_⟩) ?_ ?_
            rotate_left
            ·intro w'
             go_simp
             with_reducible rfl
            rotate_left
            ·simp only [Act.put,sA,sZ,sS,i64_w,i32_w]
             rfl
            refine take_ (i:=1) (N:=some 14) (v:=?_) (a':=?_) #[tt,tt,ff,ff,ff,ff,ff,ff,ff,ff,ff,ff,ff,ff,ff,ff,ff,ff,ff,ff,ff,ff,ff,ff,ff] rfl rfl (take_ofW HT_.out HW_.out (by kernel_rfl)) (fun _ _ _ h => h) (Or.inl ⟨by rfl,?_⟩) hHeld ?_ ?_
            rotate_left
            ·rintro w' ⟨s0,s1,s2,s3,s4,s5,s6,s7,s8,s9,s10,s11,s12⟩
             go_simp
             with_reducible rfl
            rotate_left
            ·simp only [Act.put,sA,sZ,sS,i64_w,i32_w]
             rfl
            refine pure_ (i:=2) (N:=some 15) (v:=?_) (a':=?_) #[tt,tt,tt,ff,ff,ff,ff,ff,ff,ff,ff,ff,ff,ff,ff,ff,ff,ff,ff,ff,ff,ff,ff,ff,ff] rfl rfl (any_of HT_.out (by kernel_rfl)) (fun _ _ _ h => h) (Or.inl ⟨by rfl,?_⟩) ?_ ?_
            rotate_left
            ·intro w'
             go_simp
             with_reducible rfl
            rotate_left
            ·simp only [Act.put,sA,sZ,sS,i64_w,i32_w]
             rfl
            refine pure_ (i:=3) (N:=some 16) (v:=?_) (a':=?_) #[tt,tt,tt,tt,ff,ff,ff,ff,ff,ff,ff,ff,ff,ff,ff,ff,ff,ff,ff,ff,ff,ff,ff,ff,ff] rfl rfl (any_of HT_.out (by kernel_rfl)) (fun _ _ _ h => h) (Or.inl ⟨by rfl,?_⟩) ?_ ?_
            rotate_left
            ·intro w'
             go_simp
             with_reducible rfl
            rotate_left
            ·simp only [Act.put,sA,sZ,sS,i64_w,i32_w]
             rfl
            refine pure_ (i:=4) (N:=some 17) (v:=?_) (a':=?_) #[tt,tt,tt,tt,tt,ff,ff,ff,ff,ff,ff,ff,ff,ff,ff,ff,ff,ff,ff,ff,ff,ff,ff,ff,ff] rfl rfl (any_of HT_.out (by kernel_rfl)) (fun _ _ _ h => h) (Or.inl ⟨by rfl,?_⟩) ?_ ?_
            rotate_left
            ·intro w'
             go_simp
             with_reducible rfl
            rotate_left
            ·simp only [Act.put,sA,sZ,sS,i64_w,i32_w]
             rfl
            refine pure_ (i:=5) (N:=some 18) (v:=?_) (a':=?_) #[tt,tt,tt,tt,tt,tt,ff,ff,ff,ff,ff,ff,ff,ff,ff,ff,ff,ff,ff,ff,ff,ff,ff,ff,ff] rfl rfl (any_of HT_.out (by kernel_rfl)) (fun _ _ _ h => h) (Or.inl ⟨by rfl,?_⟩) ?_ ?_
            rotate_left
            ·intro w'
             go_simp
             with_reducible rfl
            rotate_left
            ·simp only [Act.put,sA,sZ,sS,i64_w,i32_w]
             rfl
            refine pure_ (i:=6) (N:=some 19) (v:=?_) (a':=?_) #[tt,tt,tt,tt,tt,tt,tt,ff,ff,ff,ff,ff,ff,ff,ff,ff,ff,ff,ff,ff,ff,ff,ff,ff,ff] rfl rfl (any_of HT_.out (by kernel_rfl)) (fun _ _ _ h => h) (Or.inl ⟨by rfl,?_⟩) ?_ ?_
            rotate_left
            ·intro w'
             go_simp
             with_reducible rfl
            rotate_left
            ·simp only [Act.put,sA,sZ,sS,i64_w,i32_w]
             rfl
            refine pure_ (i:=7) (N:=some 20) (v:=?_) (a':=?_) #[tt,tt,tt,tt,tt,tt,tt,tt,ff,ff,ff,ff,ff,ff,ff,ff,ff,ff,ff,ff,ff,ff,ff,ff,ff] rfl rfl (any_of HT_.out (by kernel_rfl)) (fun _ _ _ h => h) (Or.inl ⟨by rfl,?_⟩) ?_ ?_
            rotate_left
            ·intro w'
             go_simp
             with_reducible rfl
            rotate_left
            ·simp only [Act.put,sA,sZ,sS,i64_w,i32_w]
             rfl
            refine pure_ (i:=9) (N:=some 22) (v:=?_) (a':=?_) #[tt,tt,tt,tt,tt,tt,tt,tt,ff,tt,ff,ff,ff,ff,ff,ff,ff,ff,ff,ff,ff,ff,ff,ff,ff] rfl rfl (any_of HT_.out (by kernel_rfl)) (fun _ _ _ h => h) (Or.inl ⟨by rfl,?_⟩) ?_ ?_
            rotate_left
            ·intro w'
             go_simp
             with_reducible rfl
            rotate_left
            ·simp only [Act.put,sA,sZ,sS,i64_w,i32_w]
             rfl
            refine pure_ (i:=10) (N:=some 23) (v:=?_) (a':=?_) #[tt,tt,tt,tt,tt,tt,tt,tt,ff,tt,tt,ff,ff,ff,ff,ff,ff,ff,ff,ff,ff,ff,ff,ff,ff] rfl rfl (any_of HT_.out (by kernel_rfl)) (fun _ _ _ h => h) (Or.inl ⟨by rfl,?_⟩) ?_ ?_
            rotate_left
            ·intro w'
             go_simp
             with_reducible rfl
            rotate_left
            ·simp only [Act.put,sA,sZ,sS,i64_w,i32_w]
             rfl
            refine pure_ (i:=14) (N:=some 27) (v:=?_) (a':=?_) #[tt,tt,tt,tt,tt,tt,tt,tt,ff,tt,tt,ff,ff,ff,tt,ff,ff,ff,ff,ff,ff,ff,ff,ff,ff] rfl rfl (any_of HT_.out (by kernel_rfl)) (fun _ _ _ h => h) (Or.inl ⟨by rfl,?_⟩) ?_ ?_
            rotate_left
            ·intro w'
             go_simp
             with_reducible rfl
            rotate_left
            ·simp only [Act.put,sA,sZ,sS,i64_w,i32_w]
             rfl
            refine take_ (i:=8) (N:=some 21) (v:=?_) (a':=?_) #[tt,tt,tt,tt,tt,tt,tt,tt,tt,tt,tt,ff,ff,ff,tt,ff,ff,ff,ff,ff,ff,ff,ff,ff,ff] rfl rfl (take_ofW HT_.out HW_.out (by kernel_rfl)) (fun _ _ _ h => h) (Or.inl ⟨by rfl,?_⟩) hHeld ?_ ?_
            rotate_left
            ·rintro w' ⟨s0,s1,s2,s3,s4,s5,s6,s7,s8,s9,s10,s11,s12⟩
             go_simp
             with_reducible rfl
            rotate_left
            ·simp only [Act.put,sA,sZ,sS,i64_w,i32_w]
             rfl
            refine pure_ (i:=11) (N:=some 24) (v:=?_) (a':=?_) #[tt,tt,tt,tt,tt,tt,tt,tt,tt,tt,tt,tt,ff,ff,tt,ff,ff,ff,ff,ff,ff,ff,ff,ff,ff] rfl rfl (any_of HT_.out (by kernel_rfl)) (fun _ _ _ h => h) (Or.inl ⟨by rfl,?_⟩) ?_ ?_
            rotate_left
            ·intro w'
             go_simp
             with_reducible rfl
            rotate_left
            ·simp only [Act.put,sA,sZ,sS,i64_w,i32_w]
             rfl
            refine pure_ (i:=12) (N:=some 25) (v:=?_) (a':=?_) #[tt,tt,tt,tt,tt,tt,tt,tt,tt,tt,tt,tt,tt,ff,tt,ff,ff,ff,ff,ff,ff,ff,ff,ff,ff] rfl rfl (any_of HT_.out (by kernel_rfl)) (fun _ _ _ h => h) (Or.inl ⟨by rfl,?_⟩) ?_ ?_
            rotate_left
            ·intro w'
             go_simp
             with_reducible rfl
            rotate_left
            ·simp only [Act.put,sA,sZ,sS,i64_w,i32_w]
             rfl
            refine take_ (i:=13) (N:=some 26) (v:=?_) (a':=?_) #[tt,tt,tt,tt,tt,tt,tt,tt,tt,tt,tt,tt,tt,tt,tt,ff,ff,ff,ff,ff,ff,ff,ff,ff,ff] rfl rfl (take_ofW HT_.out HW_.out (by kernel_rfl)) (fun _ _ _ h => h) (Or.inl ⟨by rfl,?_⟩) hHeld ?_ ?_
            rotate_left
            ·rintro w' ⟨s0,s1,s2,s3,s4,s5,s6,s7,s8,s9,s10,s11,s12⟩
             go_simp
             with_reducible rfl
            rotate_left
            ·simp only [Act.put,sA,sZ,sS,i64_w,i32_w]
             rfl
            refine take_ (i:=15) (N:=some 28) (v:=?_) (a':=?_) #[tt,tt,tt,tt,tt,tt,tt,tt,tt,tt,tt,tt,tt,tt,tt,tt,ff,ff,ff,ff,ff,ff,ff,ff,ff] rfl rfl (take_ofW HT_.out HW_.out (by kernel_rfl)) (fun _ _ _ h => h) (Or.inl ⟨by rfl,?_⟩) hHeld ?_ ?_
            rotate_left
            ·rintro w' ⟨s0,s1,s2,s3,s4,s5,s6,s7,s8,s9,s10,s11,s12⟩
             go_simp
             with_reducible rfl
            rotate_left
            ·simp only [Act.put,sA,sZ,sS,i64_w,i32_w]
             rfl
            refine pure_ (i:=16) (N:=some 29) (v:=?_) (a':=?_) #[tt,tt,tt,tt,tt,tt,tt,tt,tt,tt,tt,tt,tt,tt,tt,tt,tt,ff,ff,ff,ff,ff,ff,ff,ff] rfl rfl (any_of HT_.out (by kernel_rfl)) (fun _ _ _ h => h) (Or.inl ⟨by rfl,?_⟩) ?_ ?_
            rotate_left
            ·intro w'
             go_simp
             with_reducible rfl
            rotate_left
            ·simp only [Act.put,sA,sZ,sS,i64_w,i32_w]
             rfl
            refine pure_ (i:=17) (N:=some 30) (v:=?_) (a':=?_) #[tt,tt,tt,tt,tt,tt,tt,tt,tt,tt,tt,tt,tt,tt,tt,tt,tt,tt,ff,ff,ff,ff,ff,ff,ff] rfl rfl (any_of HT_.out (by kernel_rfl)) (fun _ _ _ h => h) (Or.inl ⟨by rfl,?_⟩) ?_ ?_
            rotate_left
            ·intro w'
             go_simp
             with_reducible rfl
            rotate_left
            ·simp only [Act.put,sA,sZ,sS,i64_w,i32_w]
             rfl
            refine pure_ (i:=18) (N:=some 31) (v:=?_) (a':=?_) #[tt,tt,tt,tt,tt,tt,tt,tt,tt,tt,tt,tt,tt,tt,tt,tt,tt,tt,tt,ff,ff,ff,ff,ff,ff] rfl rfl (any_of HT_.out (by kernel_rfl)) (fun _ _ _ h => h) (Or.inl ⟨by rfl,?_⟩) ?_ ?_
            rotate_left
            ·intro w'
             go_simp
             with_reducible rfl
            rotate_left
            ·simp only [Act.put,sA,sZ,sS,i64_w,i32_w]
             rfl
            refine pure_ (i:=19) (N:=some 32) (v:=?_) (a':=?_) #[tt,tt,tt,tt,tt,tt,tt,tt,tt,tt,tt,tt,tt,tt,tt,tt,tt,tt,tt,tt,ff,ff,ff,ff,ff] rfl rfl (any_of HT_.out (by kernel_rfl)) (fun _ _ _ h => h) (Or.inl ⟨by rfl,?_⟩) ?_ ?_
            rotate_left
            ·intro w'
             go_simp
             with_reducible rfl
            rotate_left
            ·simp only [Act.put,sA,sZ,sS,i64_w,i32_w]
             rfl
            refine pure_ (i:=20) (N:=some 33) (v:=?_) (a':=?_) #[tt,tt,tt,tt,tt,tt,tt,tt,tt,tt,tt,tt,tt,tt,tt,tt,tt,tt,tt,tt,tt,ff,ff,ff,ff] rfl rfl (any_of HT_.out (by kernel_rfl)) (fun _ _ _ h => h) (Or.inl ⟨by rfl,?_⟩) ?_ ?_
            rotate_left
            ·intro w'
             go_simp
             with_reducible rfl
            rotate_left
            ·simp only [Act.put,sA,sZ,sS,i64_w,i32_w]
             rfl
            refine take_ (i:=21) (N:=some 34) (v:=?_) (a':=?_) #[tt,tt,tt,tt,tt,tt,tt,tt,tt,tt,tt,tt,tt,tt,tt,tt,tt,tt,tt,tt,tt,tt,ff,ff,ff] rfl rfl (take_ofW HT_.out HW_.out (by kernel_rfl)) (fun _ _ _ h => h) (Or.inl ⟨by rfl,?_⟩) hHeld ?_ ?_
            rotate_left
            ·rintro w' ⟨s0,s1,s2,s3,s4,s5,s6,s7,s8,s9,s10,s11,s12⟩
             go_simp
             with_reducible rfl
            rotate_left
            ·simp only [Act.put,sA,sZ,sS,i64_w,i32_w]
             rfl
            refine one_ (i:=22) (N:=some 35) #[tt,tt,tt,tt,tt,tt,tt,tt,tt,tt,tt,tt,tt,tt,tt,tt,tt,tt,tt,tt,tt,tt,tt,ff,ff] rfl rfl (one_of HT_.out (by kernel_rfl)) (by decide) (fun K hK => ?_)
            refine goes_ Try.func26 (by kernel_rfl) rfl #[.agg #[.int .i64 ((rd_T51 l0_0 x8_1).f1.f0),.int .i64 ((rd_T51 l0_0 x8_1).f1.f1),.int .i64 ((rd_T51 l0_0 x8_1).f1.f2),.int .i64 ((rd_T51 l0_0 x8_1).f1.f3)]] (by rfl) rfl rfl (by (try simp only [List.map_toArray,List.map_cons,List.map_nil]);first|done|rfl|(simp only [List.length_drop,List.length_take];rfl)) ?_
            with_reducible refine (gazetteerref09_Box.calls ((rd_T51 l0_0 x8_1).f1.f0) ((rd_T51 l0_0 x8_1).f1.f1) ((rd_T51 l0_0 x8_1).f1.f2) ((rd_T51 l0_0 x8_1).f1.f3) false _ A23.out).mono ?_
            rintro e w36 ⟨rfl,hb⟩
            refine ⟨_,rfl,?_⟩
            have n0_:=Ak (kB (g:=gb164) (o:=.cells #[.slice (some ad165) l0_0.length c0_0] 24 (0,0)) (by (with_reducible repeat (first|refine kN ?_ _|refine kD ?_|refine kA ?_ _));exact BK164.out) hb)
            have n1_:=Ak (kB (g:=gb166) (o:=.cells #[.int .u32 ((rd_T51 l0_0 x8_1).f0),.int .i64 ((rd_T51 l0_0 x8_1).f1.f0),.int .i64 ((rd_T51 l0_0 x8_1).f1.f1),.int .i64 ((rd_T51 l0_0 x8_1).f1.f2),.int .i64 ((rd_T51 l0_0 x8_1).f1.f3),.int .i64 ((rd_T51 l0_0 x8_1).f2)] 51 (0,0)) (by (with_reducible repeat (first|refine kN ?_ _|refine kD ?_|refine kA ?_ _));exact BK166.out) hb)
            have n2_:=Ak (below_step (by repeat (first|(with_reducible first|exact HB.out|apply bA|apply bN|apply bD|refine bS ?_ GE164.out|refine bS ?_ GE166.out)|exact HB.out)) hb)
            clear BK164
            clear BK166
            clear HB
            have BK164:=n0_
            have BK166:=n1_
            have HB:=n2_
            clear n0_ n1_ n2_
            (try clear hb)
            (try clear hb2)
            (try clear hk)
            (try clear hi)
            refine hK.out _ _ ⟨(kC BK166.out 0).trans rfl,(kC BK166.out 1).trans rfl,(kC BK166.out 2).trans rfl,(kC BK166.out 3).trans rfl,(kC BK166.out 4).trans rfl,(kC BK166.out 5).trans rfl,(kC BK164.out 0).trans rfl,((HB.out.cell (World.block_lt_of_cell? w _ hw167_0)).trans hw167_0),((HB.out.cell (World.block_lt_of_cell? w _ hw167_1)).trans hw167_1),((HB.out.cell (World.block_lt_of_cell? w _ hw167_2)).trans hw167_2),((HB.out.cell (World.block_lt_of_cell? w _ hw167_3)).trans hw167_3),((HB.out.cell (World.block_lt_of_cell? w _ hw167_4)).trans hw167_4),((HB.out.cell (World.block_lt_of_cell? w _ hw167_5)).trans hw167_5)⟩ (fun hHeld => ?_)
            clear hK K
            refine norm_ (a':=?_) ?_ ?_
            rotate_left
            ·show Act.put _ (some 35) _ = _
             simp only [Act.put,sA,sZ,sS,i64_w,i32_w]
             rfl
            refine pure_ (i:=23) (N:=some 36) (v:=?_) (a':=?_) #[tt,tt,tt,tt,tt,tt,tt,tt,tt,tt,tt,tt,tt,tt,tt,tt,tt,tt,tt,tt,tt,tt,tt,tt,ff] rfl rfl (any_of HT_.out (by kernel_rfl)) (fun _ _ _ h => h) (Or.inl ⟨by rfl,?_⟩) ?_ ?_
            rotate_left
            ·intro w'
             go_simp
             with_reducible rfl
            rotate_left
            ·simp only [Act.put,sA,sZ,sS,i64_w,i32_w]
             rfl
            refine pure_ (i:=24) (N:=some 37) (v:=?_) (a':=?_) #[tt,tt,tt,tt,tt,tt,tt,tt,tt,tt,tt,tt,tt,tt,tt,tt,tt,tt,tt,tt,tt,tt,tt,tt,tt] rfl rfl (any_of HT_.out (by kernel_rfl)) (fun _ _ _ h => h) (Or.inl ⟨by rfl,?_⟩) ?_ ?_
            rotate_left
            ·intro w'
             go_simp
             with_reducible rfl
            rotate_left
            ·simp only [Act.put,sA,sZ,sS,i64_w,i32_w]
             rfl
            refine done_ (done_of HT_.out (by kernel_rfl)) ?_
            try go_wp2
            go_ret
            exact ⟨by first|rfl|(simp [errW_none,errW_some] <;> rfl)|(simp only [← hji14];first|rfl|(simp [errW_none,errW_some] <;> rfl))|(simp [*,errW_none,errW_some] <;> rfl),by repeat (first|(with_reducible first|exact HB.out|apply bA|apply bN|apply bD|refine bS ?_ GE164.out|refine bS ?_ GE166.out)|exact HB.out)⟩
         ·rw [if_neg c16] at H
          exact absurd H (by simp)
        ·rw [if_neg c15] at H
         exact absurd H (by simp)
       ·rw [if_neg c13] at H
        have c13b0 : decide (0 < x8_1) = false:=decide_eq_false c13
        clear c13
        replace H:=Option.bind_eq_some_iff.mp H
        obtain ⟨t169,A370,H⟩:=H
        replace H : (if t169 = true then (gazetteerref22_Right.l0 k1 l0_0 (l0_0.length : Int) (wrap64 (x8_1+1)) l0_0) else (some false)) = some r:=H
        have A37:=Ak A370
        clear A370
        by_cases c38 : t169 = true
        ·subst c38
         have H1 : (gazetteerref22_Right.l0 k1 l0_0 (l0_0.length : Int) (wrap64 (x8_1+1)) l0_0) = some r:=by rw [if_pos rfl] at H;exact H
         clear H
         have H:=H1
         clear H1
         have H':=Ak H
         clear H
         have p165 : 0 ≤ (x8_1 : Int):=of_decide_eq_true (by first|(with_reducible assumption)|assumption)
         have q165 : x8_1 < (l0_0.length : Int):=of_decide_eq_true (by first|(with_reducible assumption)|assumption)
         obtain ⟨ad165,e165,hx165_0,hx165_1,hx165_2,hx165_3,hx165_4,hx165_5⟩:=at_T51 HR0_0.out x8_1 p165 q165
         cases e165
         replace hx165_0:=(HB.out.cell (World.block_lt_of_cell? w _ hx165_0)).trans hx165_0
         replace hx165_1:=(HB.out.cell (World.block_lt_of_cell? w _ hx165_1)).trans hx165_1
         replace hx165_2:=(HB.out.cell (World.block_lt_of_cell? w _ hx165_2)).trans hx165_2
         replace hx165_3:=(HB.out.cell (World.block_lt_of_cell? w _ hx165_3)).trans hx165_3
         replace hx165_4:=(HB.out.cell (World.block_lt_of_cell? w _ hx165_4)).trans hx165_4
         replace hx165_5:=(HB.out.cell (World.block_lt_of_cell? w _ hx165_5)).trans hx165_5
         replace p165:=eq_true p165
         replace q165:=eq_true q165
         try go_wp2_with (first|((with_reducible refine gate_dst (N:=4) rfl ?_);refine box_event ?hg (N:=4) ?hd (cs:=#[.int .u32 0,.int .i64 0,.int .i64 0,.int .i64 0,.int .i64 0,.int .i64 0]) (t:=51) ?hr ?_;(case hd => rfl);(case hg => rfl);(case hr => first|(go_simp;done)|(go_simp;rfl));intro gb166 hg w39 hbox hb;have n0_:=Ak (kB (g:=gb164) (o:=.cells #[.slice (some ad165) l0_0.length c0_0] 24 (0,0)) (by (with_reducible repeat (first|refine kN ?_ _|refine kD ?_|refine kA ?_ _));exact BK164.out) hb);have n1_:=Ak (below_step (by repeat (first|(with_reducible first|exact HB.out|apply bA|apply bN|apply bD|refine bS ?_ GE164.out)|exact HB.out)) hb);have n2_:=Ak (hbox);have n3_:=Ak ((by rw [hg];exact (below_size (by repeat (first|(with_reducible first|exact HB.out|apply bA|apply bN|apply bD|refine bS ?_ GE164.out)|exact HB.out))) : w.heap.size ≤ gb166));have n4_:=Ak ((by rw [hg];exact (below_size (by repeat (first|(with_reducible first|exact HB.out|apply bA|apply bN|apply bD|refine bS ?_ GE164.out)|exact HB.out))) : w.heap.size ≤ gb166));have n5_:=Ak ((by rw [hg];exact Nat.ne_of_lt (blk_lt (g:=gb164) (o:=.cells #[.slice (some ad165) l0_0.length c0_0] 24 (0,0)) (by (with_reducible repeat (first|refine kN ?_ _|refine kD ?_|refine kA ?_ _));exact BK164.out)) : gb164 ≠ gb166));have n6_:=Ak ((by rw [hg];exact Nat.ne_of_gt (blk_lt (g:=gb164) (o:=.cells #[.slice (some ad165) l0_0.length c0_0] 24 (0,0)) (by (with_reducible repeat (first|refine kN ?_ _|refine kD ?_|refine kA ?_ _));exact BK164.out)) : gb166 ≠ gb164));clear BK164;clear HB;have BK164:=n0_;have HB:=n1_;have BK166:=n2_;have GW166:=n3_;have GE166:=n4_;have NB164_166:=n5_;have NB166_164:=n6_;clear n0_ n1_ n2_ n3_ n4_ n5_ n6_;clear hb hbox hg;have hnb40:=NB166_164.out;have hnc40:=NB164_166.out;have hcz41_0 : w39.cell? ⟨gb166,0,none⟩ = some (.int .u32 0):=(kC BK166.out 0).trans rfl;have hcz41_1 : w39.cell? ⟨gb166,1,none⟩ = some (.int .i64 0):=(kC BK166.out 1).trans rfl;have hcz41_2 : w39.cell? ⟨gb166,2,none⟩ = some (.int .i64 0):=(kC BK166.out 2).trans rfl;have hcz41_3 : w39.cell? ⟨gb166,3,none⟩ = some (.int .i64 0):=(kC BK166.out 3).trans rfl;have hcz41_4 : w39.cell? ⟨gb166,4,none⟩ = some (.int .i64 0):=(kC BK166.out 4).trans rfl;have hcz41_5 : w39.cell? ⟨gb166,5,none⟩ = some (.int .i64 0):=(kC BK166.out 5).trans rfl;have hfz41_0:=blk_frozen BK166.out 0;have hfz41_1:=blk_frozen BK166.out 1;have hfz41_2:=blk_frozen BK166.out 2;have hfz41_3:=blk_frozen BK166.out 3;have hfz41_4:=blk_frozen BK166.out 4;have hfz41_5:=blk_frozen BK166.out 5))
         have n0_ : Aside0 (((((((w39.setCell ⟨gb166,0,none⟩ (.int .u32 ((rd_T51 l0_0 x8_1).f0))).setCell ⟨gb166,1,none⟩ (.int .i64 ((rd_T51 l0_0 x8_1).f1.f0))).setCell ⟨gb166,2,none⟩ (.int .i64 ((rd_T51 l0_0 x8_1).f1.f1))).setCell ⟨gb166,3,none⟩ (.int .i64 ((rd_T51 l0_0 x8_1).f1.f2))).setCell ⟨gb166,4,none⟩ (.int .i64 ((rd_T51 l0_0 x8_1).f1.f3))).setCell ⟨gb166,5,none⟩ (.int .i64 ((rd_T51 l0_0 x8_1).f2))).heap[gb164]? = some (.cells #[.slice (some ad165) l0_0.length c0_0] 24 (0,0))):=⟨by (with_reducible repeat (first|refine kN ?_ _|refine kD ?_|refine kA ?_ _));refine blk_far ?_ NB164_166.out _;(with_reducible repeat (first|refine kN ?_ _|refine kD ?_|refine kA ?_ _));refine blk_far ?_ NB164_166.out _;(with_reducible repeat (first|refine kN ?_ _|refine kD ?_|refine kA ?_ _));refine blk_far ?_ NB164_166.out _;(with_reducible repeat (first|refine kN ?_ _|refine kD ?_|refine kA ?_ _));refine blk_far ?_ NB164_166.out _;(with_reducible repeat (first|refine kN ?_ _|refine kD ?_|refine kA ?_ _));refine blk_far ?_ NB164_166.out _;(with_reducible repeat (first|refine kN ?_ _|refine kD ?_|refine kA ?_ _));refine blk_far ?_ NB164_166.out _;(with_reducible repeat (first|refine kN ?_ _|refine kD ?_|refine kA ?_ _));exact BK164.out⟩
         have n1_ : Aside0 (((((((w39.setCell ⟨gb166,0,none⟩ (.int .u32 ((rd_T51 l0_0 x8_1).f0))).setCell ⟨gb166,1,none⟩ (.int .i64 ((rd_T51 l0_0 x8_1).f1.f0))).setCell ⟨gb166,2,none⟩ (.int .i64 ((rd_T51 l0_0 x8_1).f1.f1))).setCell ⟨gb166,3,none⟩ (.int .i64 ((rd_T51 l0_0 x8_1).f1.f2))).setCell ⟨gb166,4,none⟩ (.int .i64 ((rd_T51 l0_0 x8_1).f1.f3))).setCell ⟨gb166,5,none⟩ (.int .i64 ((rd_T51 l0_0 x8_1).f2))).heap[gb166]? = some (.cells #[.int .u32 ((rd_T51 l0_0 x8_1).f0),.int .i64 ((rd_T51 l0_0 x8_1).f1.f0),.int .i64 ((rd_T51 l0_0 x8_1).f1.f1),.int .i64 ((rd_T51 l0_0 x8_1).f1.f2),.int .i64 ((rd_T51 l0_0 x8_1).f1.f3),.int .i64 ((rd_T51 l0_0 x8_1).f2)] 51 (0,0))):=⟨by (with_reducible repeat (first|refine kN ?_ _|refine kD ?_|refine kA ?_ _));refine blk_put (cs:=#[.int .u32 ((rd_T51 l0_0 x8_1).f0),.int .i64 ((rd_T51 l0_0 x8_1).f1.f0),.int .i64 ((rd_T51 l0_0 x8_1).f1.f1),.int .i64 ((rd_T51 l0_0 x8_1).f1.f2),.int .i64 ((rd_T51 l0_0 x8_1).f1.f3),.int .i64 0]) ?_ 5 _ rfl;(with_reducible repeat (first|refine kN ?_ _|refine kD ?_|refine kA ?_ _));refine blk_put (cs:=#[.int .u32 ((rd_T51 l0_0 x8_1).f0),.int .i64 ((rd_T51 l0_0 x8_1).f1.f0),.int .i64 ((rd_T51 l0_0 x8_1).f1.f1),.int .i64 ((rd_T51 l0_0 x8_1).f1.f2),.int .i64 0,.int .i64 0]) ?_ 4 _ rfl;(with_reducible repeat (first|refine kN ?_ _|refine kD ?_|refine kA ?_ _));refine blk_put (cs:=#[.int .u32 ((rd_T51 l0_0 x8_1).f0),.int .i64 ((rd_T51 l0_0 x8_1).f1.f0),.int .i64 ((rd_T51 l0_0 x8_1).f1.f1),.int .i64 0,.int .i64 0,.int .i64 0]) ?_ 3 _ rfl;(with_reducible repeat (first|refine kN ?_ _|refine kD ?_|refine kA ?_ _));refine blk_put (cs:=#[.int .u32 ((rd_T51 l0_0 x8_1).f0),.int .i64 ((rd_T51 l0_0 x8_1).f1.f0),.int .i64 0,.int .i64 0,.int .i64 0,.int .i64 0]) ?_ 2 _ rfl;(with_reducible repeat (first|refine kN ?_ _|refine kD ?_|refine kA ?_ _));refine blk_put (cs:=#[.int .u32 ((rd_T51 l0_0 x8_1).f0),.int .i64 0,.int .i64 0,.int .i64 0,.int .i64 0,.int .i64 0]) ?_ 1 _ rfl;(with_reducible repeat (first|refine kN ?_ _|refine kD ?_|refine kA ?_ _));refine blk_put (cs:=#[.int .u32 0,.int .i64 0,.int .i64 0,.int .i64 0,.int .i64 0,.int .i64 0]) ?_ 0 _ rfl;(with_reducible repeat (first|refine kN ?_ _|refine kD ?_|refine kA ?_ _));exact BK166.out⟩
         have n2_ : Aside0 (Below w.heap.size w ((((((w39.setCell ⟨gb166,0,none⟩ (.int .u32 ((rd_T51 l0_0 x8_1).f0))).setCell ⟨gb166,1,none⟩ (.int .i64 ((rd_T51 l0_0 x8_1).f1.f0))).setCell ⟨gb166,2,none⟩ (.int .i64 ((rd_T51 l0_0 x8_1).f1.f1))).setCell ⟨gb166,3,none⟩ (.int .i64 ((rd_T51 l0_0 x8_1).f1.f2))).setCell ⟨gb166,4,none⟩ (.int .i64 ((rd_T51 l0_0 x8_1).f1.f3))).setCell ⟨gb166,5,none⟩ (.int .i64 ((rd_T51 l0_0 x8_1).f2)))):=⟨by repeat (first|(with_reducible first|exact HB.out|apply bA|apply bN|apply bD|refine bS ?_ GE164.out|refine bS ?_ GE166.out)|exact HB.out)⟩
         (try clear BK164)
         (try clear BK166)
         (try clear HB)
         generalize ((((((w39.setCell ⟨gb166,0,none⟩ (.int .u32 ((rd_T51 l0_0 x8_1).f0))).setCell ⟨gb166,1,none⟩ (.int .i64 ((rd_T51 l0_0 x8_1).f1.f0))).setCell ⟨gb166,2,none⟩ (.int .i64 ((rd_T51 l0_0 x8_1).f1.f1))).setCell ⟨gb166,3,none⟩ (.int .i64 ((rd_T51 l0_0 x8_1).f1.f2))).setCell ⟨gb166,4,none⟩ (.int .i64 ((rd_T51 l0_0 x8_1).f1.f3))).setCell ⟨gb166,5,none⟩ (.int .i64 ((rd_T51 l0_0 x8_1).f2))) = w42 at n0_ n1_ n2_ ⊢
         have BK164:=n0_
         have BK166:=n1_
         have HB:=n2_
         clear n0_ n1_ n2_
         have n0_:=Ak (kD BK164.out)
         have n1_:=Ak (kD BK166.out)
         have n2_:=Ak (bD HB.out)
         clear BK164
         clear BK166
         clear HB
         have BK164:=n0_
         have BK166:=n1_
         have HB:=n2_
         clear n0_ n1_ n2_
         refine start_ (n:=25) (S:=fun w' => w'.cell? ⟨gb166,0,none⟩ = some (.int .u32 ((rd_T51 l0_0 x8_1).f0))∧w'.cell? ⟨gb166,1,none⟩ = some (.int .i64 ((rd_T51 l0_0 x8_1).f1.f0))∧w'.cell? ⟨gb166,2,none⟩ = some (.int .i64 ((rd_T51 l0_0 x8_1).f1.f1))∧w'.cell? ⟨gb166,3,none⟩ = some (.int .i64 ((rd_T51 l0_0 x8_1).f1.f2))∧w'.cell? ⟨gb166,4,none⟩ = some (.int .i64 ((rd_T51 l0_0 x8_1).f1.f3))∧w'.cell? ⟨gb166,5,none⟩ = some (.int .i64 ((rd_T51 l0_0 x8_1).f2))) (ds:=[]) #[ff,ff,ff,ff,ff,ff,ff,ff,ff,ff,ff,ff,ff,ff,ff,ff,ff,ff,ff,ff,ff,ff,ff,ff,ff] (by kernel_rfl) rfl rfl ⟨(kC BK166.out 0).trans rfl,(kC BK166.out 1).trans rfl,(kC BK166.out 2).trans rfl,(kC BK166.out 3).trans rfl,(kC BK166.out 4).trans rfl,(kC BK166.out 5).trans rfl⟩ (fun hHeld => ?_);refine with_tabW gazetteerref22_Right.tab4 gazetteerref22_Right.bits4 (fun HT_ HW_ => ?_)
         generalize w42.drew = w43 at BK164 BK166 HB hHeld ⊢
         refine pure_ (i:=0) (N:=some 13) (v:=?_) (a':=?_) #[tt,ff,ff,ff,ff,ff,ff,ff,ff,ff,ff,ff,ff,ff,ff,ff,ff,ff,ff,ff,ff,ff,ff,ff,ff] rfl rfl (any_of HT_.out (by kernel_rfl)) (fun _ _ _ h => h) (Or.inl ⟨by rfl,?_⟩) ?_ ?_
         rotate_left
         ·intro w'
          go_simp
          with_reducible rfl
         rotate_left
         ·simp only [Act.put,sA,sZ,sS,i64_w,i32_w]
          rfl
         refine take_ (i:=1) (N:=some 14) (v:=?_) (a':=?_) #[tt,tt,ff,ff,ff,ff,ff,ff,ff,ff,ff,ff,ff,ff,ff,ff,ff,ff,ff,ff,ff,ff,ff,ff,ff] rfl rfl (take_ofW HT_.out HW_.out (by kernel_rfl)) (fun _ _ _ h => h) (Or.inl ⟨by rfl,?_⟩) hHeld ?_ ?_
         rotate_left
         ·rintro w' ⟨s0,s1,s2,s3,s4,s5⟩
          go_simp
          with_reducible rfl
         rotate_left
         ·simp only [Act.put,sA,sZ,sS,i64_w,i32_w]
          rfl
         refine pure_ (i:=2) (N:=some 15) (v:=?_) (a':=?_) #[tt,tt,tt,ff,ff,ff,ff,ff,ff,ff,ff,ff,ff,ff,ff,ff,ff,ff,ff,ff,ff,ff,ff,ff,ff] rfl rfl (any_of HT_.out (by kernel_rfl)) (fun _ _ _ h => h) (Or.inl ⟨by rfl,?_⟩) ?_ ?_
         rotate_left
         ·intro w'
          go_simp
          with_reducible rfl
         rotate_left
         ·simp only [Act.put,sA,sZ,sS,i64_w,i32_w]
          rfl
         refine pure_ (i:=3) (N:=some 16) (v:=?_) (a':=?_) #[tt,tt,tt,tt,ff,ff,ff,ff,ff,ff,ff,ff,ff,ff,ff,ff,ff,ff,ff,ff,ff,ff,ff,ff,ff] rfl rfl (any_of HT_.out (by kernel_rfl)) (fun _ _ _ h => h) (Or.inl ⟨by rfl,?_⟩) ?_ ?_
         rotate_left
         ·intro w'
          go_simp
          with_reducible rfl
         rotate_left
         ·simp only [Act.put,sA,sZ,sS,i64_w,i32_w]
          rfl
         refine pure_ (i:=4) (N:=some 17) (v:=?_) (a':=?_) #[tt,tt,tt,tt,tt,ff,ff,ff,ff,ff,ff,ff,ff,ff,ff,ff,ff,ff,ff,ff,ff,ff,ff,ff,ff] rfl rfl (any_of HT_.out (by kernel_rfl)) (fun _ _ _ h => h) (Or.inl ⟨by rfl,?_⟩) ?_ ?_
         rotate_left
         ·intro w'
          go_simp
          with_reducible rfl
         rotate_left
         ·simp only [Act.put,sA,sZ,sS,i64_w,i32_w]
          rfl
         refine pure_ (i:=5) (N:=some 18) (v:=?_) (a':=?_) #[tt,tt,tt,tt,tt,tt,ff,ff,ff,ff,ff,ff,ff,ff,ff,ff,ff,ff,ff,ff,ff,ff,ff,ff,ff] rfl rfl (any_of HT_.out (by kernel_rfl)) (fun _ _ _ h => h) (Or.inl ⟨by rfl,?_⟩) ?_ ?_
         rotate_left
         ·intro w'
          go_simp
          with_reducible rfl
         rotate_left
         ·simp only [Act.put,sA,sZ,sS,i64_w,i32_w]
          rfl
         refine pure_ (i:=6) (N:=some 19) (v:=?_) (a':=?_) #[tt,tt,tt,tt,tt,tt,tt,ff,ff,ff,ff,ff,ff,ff,ff,ff,ff,ff,ff,ff,ff,ff,ff,ff,ff] rfl rfl (any_of HT_.out (by kernel_rfl)) (fun _ _ _ h => h) (Or.inl ⟨by rfl,?_⟩) ?_ ?_
         rotate_left
         ·intro w'
          go_simp
          with_reducible rfl
         rotate_left
         ·simp only [Act.put,sA,sZ,sS,i64_w,i32_w]
          rfl
         refine pure_ (i:=7) (N:=some 20) (v:=undef) (a':=?_) #[tt,tt,tt,tt,tt,tt,tt,tt,ff,ff,ff,ff,ff,ff,ff,ff,ff,ff,ff,ff,ff,ff,ff,ff,ff] rfl rfl (any_of HT_.out (by kernel_rfl)) (fun _ _ _ h => h) (Or.inr ⟨by rfl,rfl⟩) ?_ ?_
         rotate_left
         ·simp only [Act.put,sA,sZ,sS,i64_w,i32_w]
          rfl
         refine pure_ (i:=8) (N:=some 21) (v:=undef) (a':=?_) #[tt,tt,tt,tt,tt,tt,tt,tt,tt,ff,ff,ff,ff,ff,ff,ff,ff,ff,ff,ff,ff,ff,ff,ff,ff] rfl rfl (any_of HT_.out (by kernel_rfl)) (fun _ _ _ h => h) (Or.inr ⟨by rfl,rfl⟩) ?_ ?_
         rotate_left
         ·simp only [Act.put,sA,sZ,sS,i64_w,i32_w]
          rfl
         refine pure_ (i:=9) (N:=some 22) (v:=undef) (a':=?_) #[tt,tt,tt,tt,tt,tt,tt,tt,tt,tt,ff,ff,ff,ff,ff,ff,ff,ff,ff,ff,ff,ff,ff,ff,ff] rfl rfl (any_of HT_.out (by kernel_rfl)) (fun _ _ _ h => h) (Or.inr ⟨by rfl,rfl⟩) ?_ ?_
         rotate_left
         ·simp only [Act.put,sA,sZ,sS,i64_w,i32_w]
          rfl
         refine pure_ (i:=10) (N:=some 23) (v:=undef) (a':=?_) #[tt,tt,tt,tt,tt,tt,tt,tt,tt,tt,tt,ff,ff,ff,ff,ff,ff,ff,ff,ff,ff,ff,ff,ff,ff] rfl rfl (any_of HT_.out (by kernel_rfl)) (fun _ _ _ h => h) (Or.inr ⟨by rfl,rfl⟩) ?_ ?_
         rotate_left
         ·simp only [Act.put,sA,sZ,sS,i64_w,i32_w]
          rfl
         refine pure_ (i:=11) (N:=some 24) (v:=undef) (a':=?_) #[tt,tt,tt,tt,tt,tt,tt,tt,tt,tt,tt,tt,ff,ff,ff,ff,ff,ff,ff,ff,ff,ff,ff,ff,ff] rfl rfl (any_of HT_.out (by kernel_rfl)) (fun _ _ _ h => h) (Or.inr ⟨by rfl,rfl⟩) ?_ ?_
         rotate_left
         ·simp only [Act.put,sA,sZ,sS,i64_w,i32_w]
          rfl
         refine pure_ (i:=12) (N:=some 25) (v:=undef) (a':=?_) #[tt,tt,tt,tt,tt,tt,tt,tt,tt,tt,tt,tt,tt,ff,ff,ff,ff,ff,ff,ff,ff,ff,ff,ff,ff] rfl rfl (any_of HT_.out (by kernel_rfl)) (fun _ _ _ h => h) (Or.inr ⟨by rfl,rfl⟩) ?_ ?_
         rotate_left
         ·simp only [Act.put,sA,sZ,sS,i64_w,i32_w]
          rfl
         refine pure_ (i:=13) (N:=some 26) (v:=undef) (a':=?_) #[tt,tt,tt,tt,tt,tt,tt,tt,tt,tt,tt,tt,tt,tt,ff,ff,ff,ff,ff,ff,ff,ff,ff,ff,ff] rfl rfl (any_of HT_.out (by kernel_rfl)) (fun _ _ _ h => h) (Or.inr ⟨by rfl,rfl⟩) ?_ ?_
         rotate_left
         ·simp only [Act.put,sA,sZ,sS,i64_w,i32_w]
          rfl
         refine pure_ (i:=14) (N:=some 27) (v:=undef) (a':=?_) #[tt,tt,tt,tt,tt,tt,tt,tt,tt,tt,tt,tt,tt,tt,tt,ff,ff,ff,ff,ff,ff,ff,ff,ff,ff] rfl rfl (any_of HT_.out (by kernel_rfl)) (fun _ _ _ h => h) (Or.inr ⟨by rfl,rfl⟩) ?_ ?_
         rotate_left
         ·simp only [Act.put,sA,sZ,sS,i64_w,i32_w]
          rfl
         refine pure_ (i:=15) (N:=some 28) (v:=undef) (a':=?_) #[tt,tt,tt,tt,tt,tt,tt,tt,tt,tt,tt,tt,tt,tt,tt,tt,ff,ff,ff,ff,ff,ff,ff,ff,ff] rfl rfl (any_of HT_.out (by kernel_rfl)) (fun _ _ _ h => h) (Or.inr ⟨by rfl,rfl⟩) ?_ ?_
         rotate_left
         ·simp only [Act.put,sA,sZ,sS,i64_w,i32_w]
          rfl
         refine pure_ (i:=16) (N:=some 29) (v:=undef) (a':=?_) #[tt,tt,tt,tt,tt,tt,tt,tt,tt,tt,tt,tt,tt,tt,tt,tt,tt,ff,ff,ff,ff,ff,ff,ff,ff] rfl rfl (any_of HT_.out (by kernel_rfl)) (fun _ _ _ h => h) (Or.inr ⟨by rfl,rfl⟩) ?_ ?_
         rotate_left
         ·simp only [Act.put,sA,sZ,sS,i64_w,i32_w]
          rfl
         refine pure_ (i:=17) (N:=some 30) (v:=?_) (a':=?_) #[tt,tt,tt,tt,tt,tt,tt,tt,tt,tt,tt,tt,tt,tt,tt,tt,tt,tt,ff,ff,ff,ff,ff,ff,ff] rfl rfl (any_of HT_.out (by kernel_rfl)) (fun _ _ _ h => h) (Or.inl ⟨by rfl,?_⟩) ?_ ?_
         rotate_left
         ·intro w'
          go_simp
          with_reducible rfl
         rotate_left
         ·simp only [Act.put,sA,sZ,sS,i64_w,i32_w]
          rfl
         refine pure_ (i:=18) (N:=some 31) (v:=?_) (a':=?_) #[tt,tt,tt,tt,tt,tt,tt,tt,tt,tt,tt,tt,tt,tt,tt,tt,tt,tt,tt,ff,ff,ff,ff,ff,ff] rfl rfl (any_of HT_.out (by kernel_rfl)) (fun _ _ _ h => h) (Or.inl ⟨by rfl,?_⟩) ?_ ?_
         rotate_left
         ·intro w'
          go_simp
          with_reducible rfl
         rotate_left
         ·simp only [Act.put,sA,sZ,sS,i64_w,i32_w]
          rfl
         refine pure_ (i:=19) (N:=some 32) (v:=?_) (a':=?_) #[tt,tt,tt,tt,tt,tt,tt,tt,tt,tt,tt,tt,tt,tt,tt,tt,tt,tt,tt,tt,ff,ff,ff,ff,ff] rfl rfl (any_of HT_.out (by kernel_rfl)) (fun _ _ _ h => h) (Or.inl ⟨by rfl,?_⟩) ?_ ?_
         rotate_left
         ·intro w'
          go_simp
          with_reducible rfl
         rotate_left
         ·simp only [Act.put,sA,sZ,sS,i64_w,i32_w]
          rfl
         refine pure_ (i:=20) (N:=some 33) (v:=?_) (a':=?_) #[tt,tt,tt,tt,tt,tt,tt,tt,tt,tt,tt,tt,tt,tt,tt,tt,tt,tt,tt,tt,tt,ff,ff,ff,ff] rfl rfl (any_of HT_.out (by kernel_rfl)) (fun _ _ _ h => h) (Or.inl ⟨by rfl,?_⟩) ?_ ?_
         rotate_left
         ·intro w'
          go_simp
          with_reducible rfl
         rotate_left
         ·simp only [Act.put,sA,sZ,sS,i64_w,i32_w]
          rfl
         refine take_ (i:=21) (N:=some 34) (v:=?_) (a':=?_) #[tt,tt,tt,tt,tt,tt,tt,tt,tt,tt,tt,tt,tt,tt,tt,tt,tt,tt,tt,tt,tt,tt,ff,ff,ff] rfl rfl (take_ofW HT_.out HW_.out (by kernel_rfl)) (fun _ _ _ h => h) (Or.inl ⟨by rfl,?_⟩) hHeld ?_ ?_
         rotate_left
         ·rintro w' ⟨s0,s1,s2,s3,s4,s5⟩
          go_simp
          with_reducible rfl
         rotate_left
         ·simp only [Act.put,sA,sZ,sS,i64_w,i32_w]
          rfl
         refine one_ (i:=22) (N:=some 35) #[tt,tt,tt,tt,tt,tt,tt,tt,tt,tt,tt,tt,tt,tt,tt,tt,tt,tt,tt,tt,tt,tt,tt,ff,ff] rfl rfl (one_of HT_.out (by kernel_rfl)) (by decide) (fun K hK => ?_)
         refine goes_ Try.func26 (by kernel_rfl) rfl #[.agg #[.int .i64 ((rd_T51 l0_0 x8_1).f1.f0),.int .i64 ((rd_T51 l0_0 x8_1).f1.f1),.int .i64 ((rd_T51 l0_0 x8_1).f1.f2),.int .i64 ((rd_T51 l0_0 x8_1).f1.f3)]] (by rfl) rfl rfl (by (try simp only [List.map_toArray,List.map_cons,List.map_nil]);first|done|rfl|(simp only [List.length_drop,List.length_take];rfl)) ?_
         with_reducible refine (gazetteerref09_Box.calls ((rd_T51 l0_0 x8_1).f1.f0) ((rd_T51 l0_0 x8_1).f1.f1) ((rd_T51 l0_0 x8_1).f1.f2) ((rd_T51 l0_0 x8_1).f1.f3) true _ A37.out).mono ?_
         rintro e w44 ⟨rfl,hb⟩
         refine ⟨_,rfl,?_⟩
         have n0_:=Ak (kB (g:=gb164) (o:=.cells #[.slice (some ad165) l0_0.length c0_0] 24 (0,0)) (by (with_reducible repeat (first|refine kN ?_ _|refine kD ?_|refine kA ?_ _));exact BK164.out) hb)
         have n1_:=Ak (kB (g:=gb166) (o:=.cells #[.int .u32 ((rd_T51 l0_0 x8_1).f0),.int .i64 ((rd_T51 l0_0 x8_1).f1.f0),.int .i64 ((rd_T51 l0_0 x8_1).f1.f1),.int .i64 ((rd_T51 l0_0 x8_1).f1.f2),.int .i64 ((rd_T51 l0_0 x8_1).f1.f3),.int .i64 ((rd_T51 l0_0 x8_1).f2)] 51 (0,0)) (by (with_reducible repeat (first|refine kN ?_ _|refine kD ?_|refine kA ?_ _));exact BK166.out) hb)
         have n2_:=Ak (below_step (by repeat (first|(with_reducible first|exact HB.out|apply bA|apply bN|apply bD|refine bS ?_ GE164.out|refine bS ?_ GE166.out)|exact HB.out)) hb)
         clear BK164
         clear BK166
         clear HB
         have BK164:=n0_
         have BK166:=n1_
         have HB:=n2_
         clear n0_ n1_ n2_
         (try clear hb)
         (try clear hb2)
         (try clear hk)
         (try clear hi)
         refine hK.out _ _ ⟨(kC BK166.out 0).trans rfl,(kC BK166.out 1).trans rfl,(kC BK166.out 2).trans rfl,(kC BK166.out 3).trans rfl,(kC BK166.out 4).trans rfl,(kC BK166.out 5).trans rfl⟩ (fun hHeld => ?_)
         clear hK K
         refine norm_ (a':=?_) ?_ ?_
         rotate_left
         ·show Act.put _ (some 35) _ = _
          simp only [Act.put,sA,sZ,sS,i64_w,i32_w]
          rfl
         refine pure_ (i:=23) (N:=some 36) (v:=?_) (a':=?_) #[tt,tt,tt,tt,tt,tt,tt,tt,tt,tt,tt,tt,tt,tt,tt,tt,tt,tt,tt,tt,tt,tt,tt,tt,ff] rfl rfl (any_of HT_.out (by kernel_rfl)) (fun _ _ _ h => h) (Or.inl ⟨by rfl,?_⟩) ?_ ?_
         rotate_left
         ·intro w'
          go_simp
          with_reducible rfl
         rotate_left
         ·simp only [Act.put,sA,sZ,sS,i64_w,i32_w]
          rfl
         refine pure_ (i:=24) (N:=some 37) (v:=?_) (a':=?_) #[tt,tt,tt,tt,tt,tt,tt,tt,tt,tt,tt,tt,tt,tt,tt,tt,tt,tt,tt,tt,tt,tt,tt,tt,tt] rfl rfl (any_of HT_.out (by kernel_rfl)) (fun _ _ _ h => h) (Or.inl ⟨by rfl,?_⟩) ?_ ?_
         rotate_left
         ·intro w'
          go_simp
          with_reducible rfl
         rotate_left
         ·simp only [Act.put,sA,sZ,sS,i64_w,i32_w]
          rfl
         refine done_ (done_of HT_.out (by kernel_rfl)) ?_
         try go_wp2
         go_roundg k1
         case measure => have:=HK1.out;omega
         case rel => exact ⟨(wrap64 (x8_1+1)),(by first|rfl|(simp;done)|(simp [*];done)),H',⟨by have:=HK1.out;omega⟩,⟨by (with_reducible repeat (first|refine kN ?_ _|refine kD ?_|refine kA ?_ _));exact BK164.out⟩,⟨by repeat (first|(with_reducible first|exact HB.out|apply bA|apply bN|apply bD|refine bS ?_ GE164.out|refine bS ?_ GE166.out)|exact HB.out)⟩⟩
        ·replace c38:=Bool.eq_false_iff.mpr c38
         subst c38
         have H1 : (some false) = some r:=by rw [if_neg (show ¬ (false = true) by decide)] at H;exact H
         clear H
         have H:=H1
         clear H1
         obtain rfl:=Option.some.inj H
         have p165 : 0 ≤ (x8_1 : Int):=of_decide_eq_true (by first|(with_reducible assumption)|assumption)
         have q165 : x8_1 < (l0_0.length : Int):=of_decide_eq_true (by first|(with_reducible assumption)|assumption)
         obtain ⟨ad165,e165,hx165_0,hx165_1,hx165_2,hx165_3,hx165_4,hx165_5⟩:=at_T51 HR0_0.out x8_1 p165 q165
         cases e165
         replace hx165_0:=(HB.out.cell (World.block_lt_of_cell? w _ hx165_0)).trans hx165_0
         replace hx165_1:=(HB.out.cell (World.block_lt_of_cell? w _ hx165_1)).trans hx165_1
         replace hx165_2:=(HB.out.cell (World.block_lt_of_cell? w _ hx165_2)).trans hx165_2
         replace hx165_3:=(HB.out.cell (World.block_lt_of_cell? w _ hx165_3)).trans hx165_3
         replace hx165_4:=(HB.out.cell (World.block_lt_of_cell? w _ hx165_4)).trans hx165_4
         replace hx165_5:=(HB.out.cell (World.block_lt_of_cell? w _ hx165_5)).trans hx165_5
         replace p165:=eq_true p165
         replace q165:=eq_true q165
         try go_wp2_with (first|((with_reducible refine gate_dst (N:=4) rfl ?_);refine box_event ?hg (N:=4) ?hd (cs:=#[.int .u32 0,.int .i64 0,.int .i64 0,.int .i64 0,.int .i64 0,.int .i64 0]) (t:=51) ?hr ?_;(case hd => rfl);(case hg => rfl);(case hr => first|(go_simp;done)|(go_simp;rfl));intro gb166 hg w45 hbox hb;have n0_:=Ak (kB (g:=gb164) (o:=.cells #[.slice (some ad165) l0_0.length c0_0] 24 (0,0)) (by (with_reducible repeat (first|refine kN ?_ _|refine kD ?_|refine kA ?_ _));exact BK164.out) hb);have n1_:=Ak (below_step (by repeat (first|(with_reducible first|exact HB.out|apply bA|apply bN|apply bD|refine bS ?_ GE164.out)|exact HB.out)) hb);have n2_:=Ak (hbox);have n3_:=Ak ((by rw [hg];exact (below_size (by repeat (first|(with_reducible first|exact HB.out|apply bA|apply bN|apply bD|refine bS ?_ GE164.out)|exact HB.out))) : w.heap.size ≤ gb166));have n4_:=Ak ((by rw [hg];exact (below_size (by repeat (first|(with_reducible first|exact HB.out|apply bA|apply bN|apply bD|refine bS ?_ GE164.out)|exact HB.out))) : w.heap.size ≤ gb166));have n5_:=Ak ((by rw [hg];exact Nat.ne_of_lt (blk_lt (g:=gb164) (o:=.cells #[.slice (some ad165) l0_0.length c0_0] 24 (0,0)) (by (with_reducible repeat (first|refine kN ?_ _|refine kD ?_|refine kA ?_ _));exact BK164.out)) : gb164 ≠ gb166));have n6_:=Ak ((by rw [hg];exact Nat.ne_of_gt (blk_lt (g:=gb164) (o:=.cells #[.slice (some ad165) l0_0.length c0_0] 24 (0,0)) (by (with_reducible repeat (first|refine kN ?_ _|refine kD ?_|refine kA ?_ _));exact BK164.out)) : gb166 ≠ gb164));clear BK164;clear HB;have BK164:=n0_;have HB:=n1_;have BK166:=n2_;have GW166:=n3_;have GE166:=n4_;have NB164_166:=n5_;have NB166_164:=n6_;clear n0_ n1_ n2_ n3_ n4_ n5_ n6_;clear hb hbox hg;have hnb46:=NB166_164.out;have hnc46:=NB164_166.out;have hcz47_0 : w45.cell? ⟨gb166,0,none⟩ = some (.int .u32 0):=(kC BK166.out 0).trans rfl;have hcz47_1 : w45.cell? ⟨gb166,1,none⟩ = some (.int .i64 0):=(kC BK166.out 1).trans rfl;have hcz47_2 : w45.cell? ⟨gb166,2,none⟩ = some (.int .i64 0):=(kC BK166.out 2).trans rfl;have hcz47_3 : w45.cell? ⟨gb166,3,none⟩ = some (.int .i64 0):=(kC BK166.out 3).trans rfl;have hcz47_4 : w45.cell? ⟨gb166,4,none⟩ = some (.int .i64 0):=(kC BK166.out 4).trans rfl;have hcz47_5 : w45.cell? ⟨gb166,5,none⟩ = some (.int .i64 0):=(kC BK166.out 5).trans rfl;have hfz47_0:=blk_frozen BK166.out 0;have hfz47_1:=blk_frozen BK166.out 1;have hfz47_2:=blk_frozen BK166.out 2;have hfz47_3:=blk_frozen BK166.out 3;have hfz47_4:=blk_frozen BK166.out 4;have hfz47_5:=blk_frozen BK166.out 5))
         have n0_ : Aside0 (((((((w45.setCell ⟨gb166,0,none⟩ (.int .u32 ((rd_T51 l0_0 x8_1).f0))).setCell ⟨gb166,1,none⟩ (.int .i64 ((rd_T51 l0_0 x8_1).f1.f0))).setCell ⟨gb166,2,none⟩ (.int .i64 ((rd_T51 l0_0 x8_1).f1.f1))).setCell ⟨gb166,3,none⟩ (.int .i64 ((rd_T51 l0_0 x8_1).f1.f2))).setCell ⟨gb166,4,none⟩ (.int .i64 ((rd_T51 l0_0 x8_1).f1.f3))).setCell ⟨gb166,5,none⟩ (.int .i64 ((rd_T51 l0_0 x8_1).f2))).heap[gb164]? = some (.cells #[.slice (some ad165) l0_0.length c0_0] 24 (0,0))):=⟨by (with_reducible repeat (first|refine kN ?_ _|refine kD ?_|refine kA ?_ _));refine blk_far ?_ NB164_166.out _;(with_reducible repeat (first|refine kN ?_ _|refine kD ?_|refine kA ?_ _));refine blk_far ?_ NB164_166.out _;(with_reducible repeat (first|refine kN ?_ _|refine kD ?_|refine kA ?_ _));refine blk_far ?_ NB164_166.out _;(with_reducible repeat (first|refine kN ?_ _|refine kD ?_|refine kA ?_ _));refine blk_far ?_ NB164_166.out _;(with_reducible repeat (first|refine kN ?_ _|refine kD ?_|refine kA ?_ _));refine blk_far ?_ NB164_166.out _;(with_reducible repeat (first|refine kN ?_ _|refine kD ?_|refine kA ?_ _));refine blk_far ?_ NB164_166.out _;(with_reducible repeat (first|refine kN ?_ _|refine kD ?_|refine kA ?_ _));exact BK164.out⟩
         have n1_ : Aside0 (((((((w45.setCell ⟨gb166,0,none⟩ (.int .u32 ((rd_T51 l0_0 x8_1).f0))).setCell ⟨gb166,1,none⟩ (.int .i64 ((rd_T51 l0_0 x8_1).f1.f0))).setCell ⟨gb166,2,none⟩ (.int .i64 ((rd_T51 l0_0 x8_1).f1.f1))).setCell ⟨gb166,3,none⟩ (.int .i64 ((rd_T51 l0_0 x8_1).f1.f2))).setCell ⟨gb166,4,none⟩ (.int .i64 ((rd_T51 l0_0 x8_1).f1.f3))).setCell ⟨gb166,5,none⟩ (.int .i64 ((rd_T51 l0_0 x8_1).f2))).heap[gb166]? = some (.cells #[.int .u32 ((rd_T51 l0_0 x8_1).f0),.int .i64 ((rd_T51 l0_0 x8_1).f1.f0),.int .i64 ((rd_T51 l0_0 x8_1).f1.f1),.int .i64 ((rd_T51 l0_0 x8_1).f1.f2),.int .i64 ((rd_T51 l0_0 x8_1).f1.f3),.int .i64 ((rd_T51 l0_0 x8_1).f2)] 51 (0,0))):=⟨by (with_reducible repeat (first|refine kN ?_ _|refine kD ?_|refine kA ?_ _));refine blk_put (cs:=#[.int .u32 ((rd_T51 l0_0 x8_1).f0),.int .i64 ((rd_T51 l0_0 x8_1).f1.f0),.int .i64 ((rd_T51 l0_0 x8_1).f1.f1),.int .i64 ((rd_T51 l0_0 x8_1).f1.f2),.int .i64 ((rd_T51 l0_0 x8_1).f1.f3),.int .i64 0]) ?_ 5 _ rfl;(with_reducible repeat (first|refine kN ?_ _|refine kD ?_|refine kA ?_ _));refine blk_put (cs:=#[.int .u32 ((rd_T51 l0_0 x8_1).f0),.int .i64 ((rd_T51 l0_0 x8_1).f1.f0),.int .i64 ((rd_T51 l0_0 x8_1).f1.f1),.int .i64 ((rd_T51 l0_0 x8_1).f1.f2),.int .i64 0,.int .i64 0]) ?_ 4 _ rfl;(with_reducible repeat (first|refine kN ?_ _|refine kD ?_|refine kA ?_ _));refine blk_put (cs:=#[.int .u32 ((rd_T51 l0_0 x8_1).f0),.int .i64 ((rd_T51 l0_0 x8_1).f1.f0),.int .i64 ((rd_T51 l0_0 x8_1).f1.f1),.int .i64 0,.int .i64 0,.int .i64 0]) ?_ 3 _ rfl;(with_reducible repeat (first|refine kN ?_ _|refine kD ?_|refine kA ?_ _));refine blk_put (cs:=#[.int .u32 ((rd_T51 l0_0 x8_1).f0),.int .i64 ((rd_T51 l0_0 x8_1).f1.f0),.int .i64 0,.int .i64 0,.int .i64 0,.int .i64 0]) ?_ 2 _ rfl;(with_reducible repeat (first|refine kN ?_ _|refine kD ?_|refine kA ?_ _));refine blk_put (cs:=#[.int .u32 ((rd_T51 l0_0 x8_1).f0),.int .i64 0,.int .i64 0,.int .i64 0,.int .i64 0,.int .i64 0]) ?_ 1 _ rfl;(with_reducible repeat (first|refine kN ?_ _|refine kD ?_|refine kA ?_ _));refine blk_put (cs:=#[.int .u32 0,.int .i64 0,.int .i64 0,.int .i64 0,.int .i64 0,.int .i64 0]) ?_ 0 _ rfl;(with_reducible repeat (first|refine kN ?_ _|refine kD ?_|refine kA ?_ _));exact BK166.out⟩
         have n2_ : Aside0 (Below w.heap.size w ((((((w45.setCell ⟨gb166,0,none⟩ (.int .u32 ((rd_T51 l0_0 x8_1).f0))).setCell ⟨gb166,1,none⟩ (.int .i64 ((rd_T51 l0_0 x8_1).f1.f0))).setCell ⟨gb166,2,none⟩ (.int .i64 ((rd_T51 l0_0 x8_1).f1.f1))).setCell ⟨gb166,3,none⟩ (.int .i64 ((rd_T51 l0_0 x8_1).f1.f2))).setCell ⟨gb166,4,none⟩ (.int .i64 ((rd_T51 l0_0 x8_1).f1.f3))).setCell ⟨gb166,5,none⟩ (.int .i64 ((rd_T51 l0_0 x8_1).f2)))):=⟨by repeat (first|(with_reducible first|exact HB.out|apply bA|apply bN|apply bD|refine bS ?_ GE164.out|refine bS ?_ GE166.out)|exact HB.out)⟩
         (try clear BK164)
         (try clear BK166)
         (try clear HB)
         generalize ((((((w45.setCell ⟨gb166,0,none⟩ (.int .u32 ((rd_T51 l0_0 x8_1).f0))).setCell ⟨gb166,1,none⟩ (.int .i64 ((rd_T51 l0_0 x8_1).f1.f0))).setCell ⟨gb166,2,none⟩ (.int .i64 ((rd_T51 l0_0 x8_1).f1.f1))).setCell ⟨gb166,3,none⟩ (.int .i64 ((rd_T51 l0_0 x8_1).f1.f2))).setCell ⟨gb166,4,none⟩ (.int .i64 ((rd_T51 l0_0 x8_1).f1.f3))).setCell ⟨gb166,5,none⟩ (.int .i64 ((rd_T51 l0_0 x8_1).f2))) = w48 at n0_ n1_ n2_ ⊢
         have BK164:=n0_
         have BK166:=n1_
         have HB:=n2_
         clear n0_ n1_ n2_
         have n0_:=Ak (kD BK164.out)
         have n1_:=Ak (kD BK166.out)
         have n2_:=Ak (bD HB.out)
         clear BK164
         clear BK166
         clear HB
         have BK164:=n0_
         have BK166:=n1_
         have HB:=n2_
         clear n0_ n1_ n2_
         refine start_ (n:=25) (S:=fun w' => w'.cell? ⟨gb166,0,none⟩ = some (.int .u32 ((rd_T51 l0_0 x8_1).f0))∧w'.cell? ⟨gb166,1,none⟩ = some (.int .i64 ((rd_T51 l0_0 x8_1).f1.f0))∧w'.cell? ⟨gb166,2,none⟩ = some (.int .i64 ((rd_T51 l0_0 x8_1).f1.f1))∧w'.cell? ⟨gb166,3,none⟩ = some (.int .i64 ((rd_T51 l0_0 x8_1).f1.f2))∧w'.cell? ⟨gb166,4,none⟩ = some (.int .i64 ((rd_T51 l0_0 x8_1).f1.f3))∧w'.cell? ⟨gb166,5,none⟩ = some (.int .i64 ((rd_T51 l0_0 x8_1).f2))) (ds:=[]) #[ff,ff,ff,ff,ff,ff,ff,ff,ff,ff,ff,ff,ff,ff,ff,ff,ff,ff,ff,ff,ff,ff,ff,ff,ff] (by kernel_rfl) rfl rfl ⟨(kC BK166.out 0).trans rfl,(kC BK166.out 1).trans rfl,(kC BK166.out 2).trans rfl,(kC BK166.out 3).trans rfl,(kC BK166.out 4).trans rfl,(kC BK166.out 5).trans rfl⟩ (fun hHeld => ?_);refine with_tabW gazetteerref22_Right.tab4 gazetteerref22_Right.bits4 (fun HT_ HW_ => ?_)
         generalize w48.drew = w49 at BK164 BK166 HB hHeld ⊢
         refine pure_ (i:=0) (N:=some 13) (v:=?_) (a':=?_) #[tt,ff,ff,ff,ff,ff,ff,ff,ff,ff,ff,ff,ff,ff,ff,ff,ff,ff,ff,ff,ff,ff,ff,ff,ff] rfl rfl (any_of HT_.out (by kernel_rfl)) (fun _ _ _ h => h) (Or.inl ⟨by rfl,?_⟩) ?_ ?_
         rotate_left
         ·intro w'
          go_simp
          with_reducible rfl
         rotate_left
         ·simp only [Act.put,sA,sZ,sS,i64_w,i32_w]
          rfl
         refine take_ (i:=1) (N:=some 14) (v:=?_) (a':=?_) #[tt,tt,ff,ff,ff,ff,ff,ff,ff,ff,ff,ff,ff,ff,ff,ff,ff,ff,ff,ff,ff,ff,ff,ff,ff] rfl rfl (take_ofW HT_.out HW_.out (by kernel_rfl)) (fun _ _ _ h => h) (Or.inl ⟨by rfl,?_⟩) hHeld ?_ ?_
         rotate_left
         ·rintro w' ⟨s0,s1,s2,s3,s4,s5⟩
          go_simp
          with_reducible rfl
         rotate_left
         ·simp only [Act.put,sA,sZ,sS,i64_w,i32_w]
          rfl
         refine pure_ (i:=2) (N:=some 15) (v:=?_) (a':=?_) #[tt,tt,tt,ff,ff,ff,ff,ff,ff,ff,ff,ff,ff,ff,ff,ff,ff,ff,ff,ff,ff,ff,ff,ff,ff] rfl rfl (any_of HT_.out (by kernel_rfl)) (fun _ _ _ h => h) (Or.inl ⟨by rfl,?_⟩) ?_ ?_
         rotate_left
         ·intro w'
          go_simp
          with_reducible rfl
         rotate_left
         ·simp only [Act.put,sA,sZ,sS,i64_w,i32_w]
          rfl
         refine pure_ (i:=3) (N:=some 16) (v:=?_) (a':=?_) #[tt,tt,tt,tt,ff,ff,ff,ff,ff,ff,ff,ff,ff,ff,ff,ff,ff,ff,ff,ff,ff,ff,ff,ff,ff] rfl rfl (any_of HT_.out (by kernel_rfl)) (fun _ _ _ h => h) (Or.inl ⟨by rfl,?_⟩) ?_ ?_
         rotate_left
         ·intro w'
          go_simp
          with_reducible rfl
         rotate_left
         ·simp only [Act.put,sA,sZ,sS,i64_w,i32_w]
          rfl
         refine pure_ (i:=4) (N:=some 17) (v:=?_) (a':=?_) #[tt,tt,tt,tt,tt,ff,ff,ff,ff,ff,ff,ff,ff,ff,ff,ff,ff,ff,ff,ff,ff,ff,ff,ff,ff] rfl rfl (any_of HT_.out (by kernel_rfl)) (fun _ _ _ h => h) (Or.inl ⟨by rfl,?_⟩) ?_ ?_
         rotate_left
         ·intro w'
          go_simp
          with_reducible rfl
         rotate_left
         ·simp only [Act.put,sA,sZ,sS,i64_w,i32_w]
          rfl
         refine pure_ (i:=5) (N:=some 18) (v:=?_) (a':=?_) #[tt,tt,tt,tt,tt,tt,ff,ff,ff,ff,ff,ff,ff,ff,ff,ff,ff,ff,ff,ff,ff,ff,ff,ff,ff] rfl rfl (any_of HT_.out (by kernel_rfl)) (fun _ _ _ h => h) (Or.inl ⟨by rfl,?_⟩) ?_ ?_
         rotate_left
         ·intro w'
          go_simp
          with_reducible rfl
         rotate_left
         ·simp only [Act.put,sA,sZ,sS,i64_w,i32_w]
          rfl
         refine pure_ (i:=6) (N:=some 19) (v:=?_) (a':=?_) #[tt,tt,tt,tt,tt,tt,tt,ff,ff,ff,ff,ff,ff,ff,ff,ff,ff,ff,ff,ff,ff,ff,ff,ff,ff] rfl rfl (any_of HT_.out (by kernel_rfl)) (fun _ _ _ h => h) (Or.inl ⟨by rfl,?_⟩) ?_ ?_
         rotate_left
         ·intro w'
          go_simp
          with_reducible rfl
         rotate_left
         ·simp only [Act.put,sA,sZ,sS,i64_w,i32_w]
          rfl
         refine pure_ (i:=7) (N:=some 20) (v:=undef) (a':=?_) #[tt,tt,tt,tt,tt,tt,tt,tt,ff,ff,ff,ff,ff,ff,ff,ff,ff,ff,ff,ff,ff,ff,ff,ff,ff] rfl rfl (any_of HT_.out (by kernel_rfl)) (fun _ _ _ h => h) (Or.inr ⟨by rfl,rfl⟩) ?_ ?_
         rotate_left
         ·simp only [Act.put,sA,sZ,sS,i64_w,i32_w]
          rfl
         refine pure_ (i:=8) (N:=some 21) (v:=undef) (a':=?_) #[tt,tt,tt,tt,tt,tt,tt,tt,tt,ff,ff,ff,ff,ff,ff,ff,ff,ff,ff,ff,ff,ff,ff,ff,ff] rfl rfl (any_of HT_.out (by kernel_rfl)) (fun _ _ _ h => h) (Or.inr ⟨by rfl,rfl⟩) ?_ ?_
         rotate_left
         ·simp only [Act.put,sA,sZ,sS,i64_w,i32_w]
          rfl
         refine pure_ (i:=9) (N:=some 22) (v:=undef) (a':=?_) #[tt,tt,tt,tt,tt,tt,tt,tt,tt,tt,ff,ff,ff,ff,ff,ff,ff,ff,ff,ff,ff,ff,ff,ff,ff] rfl rfl (any_of HT_.out (by kernel_rfl)) (fun _ _ _ h => h) (Or.inr ⟨by rfl,rfl⟩) ?_ ?_
         rotate_left
         ·simp only [Act.put,sA,sZ,sS,i64_w,i32_w]
          rfl
         refine pure_ (i:=10) (N:=some 23) (v:=undef) (a':=?_) #[tt,tt,tt,tt,tt,tt,tt,tt,tt,tt,tt,ff,ff,ff,ff,ff,ff,ff,ff,ff,ff,ff,ff,ff,ff] rfl rfl (any_of HT_.out (by kernel_rfl)) (fun _ _ _ h => h) (Or.inr ⟨by rfl,rfl⟩) ?_ ?_
         rotate_left
         ·simp only [Act.put,sA,sZ,sS,i64_w,i32_w]
          rfl
         refine pure_ (i:=11) (N:=some 24) (v:=undef) (a':=?_) #[tt,tt,tt,tt,tt,tt,tt,tt,tt,tt,tt,tt,ff,ff,ff,ff,ff,ff,ff,ff,ff,ff,ff,ff,ff] rfl rfl (any_of HT_.out (by kernel_rfl)) (fun _ _ _ h => h) (Or.inr ⟨by rfl,rfl⟩) ?_ ?_
         rotate_left
         ·simp only [Act.put,sA,sZ,sS,i64_w,i32_w]
          rfl
         refine pure_ (i:=12) (N:=some 25) (v:=undef) (a':=?_) #[tt,tt,tt,tt,tt,tt,tt,tt,tt,tt,tt,tt,tt,ff,ff,ff,ff,ff,ff,ff,ff,ff,ff,ff,ff] rfl rfl (any_of HT_.out (by kernel_rfl)) (fun _ _ _ h => h) (Or.inr ⟨by rfl,rfl⟩) ?_ ?_
         rotate_left
         ·simp only [Act.put,sA,sZ,sS,i64_w,i32_w]
          rfl
         refine pure_ (i:=13) (N:=some 26) (v:=undef) (a':=?_) #[tt,tt,tt,tt,tt,tt,tt,tt,tt,tt,tt,tt,tt,tt,ff,ff,ff,ff,ff,ff,ff,ff,ff,ff,ff] rfl rfl (any_of HT_.out (by kernel_rfl)) (fun _ _ _ h => h) (Or.inr ⟨by rfl,rfl⟩) ?_ ?_
         rotate_left
         ·simp only [Act.put,sA,sZ,sS,i64_w,i32_w]
          rfl
         refine pure_ (i:=14) (N:=some 27) (v:=undef) (a':=?_) #[tt,tt,tt,tt,tt,tt,tt,tt,tt,tt,tt,tt,tt,tt,tt,ff,ff,ff,ff,ff,ff,ff,ff,ff,ff] rfl rfl (any_of HT_.out (by kernel_rfl)) (fun _ _ _ h => h) (Or.inr ⟨by rfl,rfl⟩) ?_ ?_
         rotate_left
         ·simp only [Act.put,sA,sZ,sS,i64_w,i32_w]
          rfl
         refine pure_ (i:=15) (N:=some 28) (v:=undef) (a':=?_) #[tt,tt,tt,tt,tt,tt,tt,tt,tt,tt,tt,tt,tt,tt,tt,tt,ff,ff,ff,ff,ff,ff,ff,ff,ff] rfl rfl (any_of HT_.out (by kernel_rfl)) (fun _ _ _ h => h) (Or.inr ⟨by rfl,rfl⟩) ?_ ?_
         rotate_left
         ·simp only [Act.put,sA,sZ,sS,i64_w,i32_w]
          rfl
         refine pure_ (i:=16) (N:=some 29) (v:=undef) (a':=?_) #[tt,tt,tt,tt,tt,tt,tt,tt,tt,tt,tt,tt,tt,tt,tt,tt,tt,ff,ff,ff,ff,ff,ff,ff,ff] rfl rfl (any_of HT_.out (by kernel_rfl)) (fun _ _ _ h => h) (Or.inr ⟨by rfl,rfl⟩) ?_ ?_
         rotate_left
         ·simp only [Act.put,sA,sZ,sS,i64_w,i32_w]
          rfl
         refine pure_ (i:=17) (N:=some 30) (v:=?_) (a':=?_) #[tt,tt,tt,tt,tt,tt,tt,tt,tt,tt,tt,tt,tt,tt,tt,tt,tt,tt,ff,ff,ff,ff,ff,ff,ff] rfl rfl (any_of HT_.out (by kernel_rfl)) (fun _ _ _ h => h) (Or.inl ⟨by rfl,?_⟩) ?_ ?_
         rotate_left
         ·intro w'
          go_simp
          with_reducible rfl
         rotate_left
         ·simp only [Act.put,sA,sZ,sS,i64_w,i32_w]
          rfl
         refine pure_ (i:=18) (N:=some 31) (v:=?_) (a':=?_) #[tt,tt,tt,tt,tt,tt,tt,tt,tt,tt,tt,tt,tt,tt,tt,tt,tt,tt,tt,ff,ff,ff,ff,ff,ff] rfl rfl (any_of HT_.out (by kernel_rfl)) (fun _ _ _ h => h) (Or.inl ⟨by rfl,?_⟩) ?_ ?_
         rotate_left
         ·intro w'
          go_simp
          with_reducible rfl
         rotate_left
         ·simp only [Act.put,sA,sZ,sS,i64_w,i32_w]
          rfl
         refine pure_ (i:=19) (N:=some 32) (v:=?_) (a':=?_) #[tt,tt,tt,tt,tt,tt,tt,tt,tt,tt,tt,tt,tt,tt,tt,tt,tt,tt,tt,tt,ff,ff,ff,ff,ff] rfl rfl (any_of HT_.out (by kernel_rfl)) (fun _ _ _ h => h) (Or.inl ⟨by rfl,?_⟩) ?_ ?_
         rotate_left
         ·intro w'
          go_simp
          with_reducible rfl
         rotate_left
         ·simp only [Act.put,sA,sZ,sS,i64_w,i32_w]
          rfl
         refine pure_ (i:=20) (N:=some 33) (v:=?_) (a':=?_) #[tt,tt,tt,tt,tt,tt,tt,tt,tt,tt,tt,tt,tt,tt,tt,tt,tt,tt,tt,tt,tt,ff,ff,ff,ff] rfl rfl (any_of HT_.out (by kernel_rfl)) (fun _ _ _ h => h) (Or.inl ⟨by rfl,?_⟩) ?_ ?_
         rotate_left
         ·intro w'
          go_simp
          with_reducible rfl
         rotate_left
         ·simp only [Act.put,sA,sZ,sS,i64_w,i32_w]
          rfl
         refine take_ (i:=21) (N:=some 34) (v:=?_) (a':=?_) #[tt,tt,tt,tt,tt,tt,tt,tt,tt,tt,tt,tt,tt,tt,tt,tt,tt,tt,tt,tt,tt,tt,ff,ff,ff] rfl rfl (take_ofW HT_.out HW_.out (by kernel_rfl)) (fun _ _ _ h => h) (Or.inl ⟨by rfl,?_⟩) hHeld ?_ ?_
         rotate_left
         ·rintro w' ⟨s0,s1,s2,s3,s4,s5⟩
          go_simp
          with_reducible rfl
         rotate_left
         ·simp only [Act.put,sA,sZ,sS,i64_w,i32_w]
          rfl
         refine one_ (i:=22) (N:=some 35) #[tt,tt,tt,tt,tt,tt,tt,tt,tt,tt,tt,tt,tt,tt,tt,tt,tt,tt,tt,tt,tt,tt,tt,ff,ff] rfl rfl (one_of HT_.out (by kernel_rfl)) (by decide) (fun K hK => ?_)
         refine goes_ Try.func26 (by kernel_rfl) rfl #[.agg #[.int .i64 ((rd_T51 l0_0 x8_1).f1.f0),.int .i64 ((rd_T51 l0_0 x8_1).f1.f1),.int .i64 ((rd_T51 l0_0 x8_1).f1.f2),.int .i64 ((rd_T51 l0_0 x8_1).f1.f3)]] (by rfl) rfl rfl (by (try simp only [List.map_toArray,List.map_cons,List.map_nil]);first|done|rfl|(simp only [List.length_drop,List.length_take];rfl)) ?_
         with_reducible refine (gazetteerref09_Box.calls ((rd_T51 l0_0 x8_1).f1.f0) ((rd_T51 l0_0 x8_1).f1.f1) ((rd_T51 l0_0 x8_1).f1.f2) ((rd_T51 l0_0 x8_1).f1.f3) false _ A37.out).mono ?_
         rintro e w50 ⟨rfl,hb⟩
         refine ⟨_,rfl,?_⟩
         have n0_:=Ak (kB (g:=gb164) (o:=.cells #[.slice (some ad165) l0_0.length c0_0] 24 (0,0)) (by (with_reducible repeat (first|refine kN ?_ _|refine kD ?_|refine kA ?_ _));exact BK164.out) hb)
         have n1_:=Ak (kB (g:=gb166) (o:=.cells #[.int .u32 ((rd_T51 l0_0 x8_1).f0),.int .i64 ((rd_T51 l0_0 x8_1).f1.f0),.int .i64 ((rd_T51 l0_0 x8_1).f1.f1),.int .i64 ((rd_T51 l0_0 x8_1).f1.f2),.int .i64 ((rd_T51 l0_0 x8_1).f1.f3),.int .i64 ((rd_T51 l0_0 x8_1).f2)] 51 (0,0)) (by (with_reducible repeat (first|refine kN ?_ _|refine kD ?_|refine kA ?_ _));exact BK166.out) hb)
         have n2_:=Ak (below_step (by repeat (first|(with_reducible first|exact HB.out|apply bA|apply bN|apply bD|refine bS ?_ GE164.out|refine bS ?_ GE166.out)|exact HB.out)) hb)
         clear BK164
         clear BK166
         clear HB
         have BK164:=n0_
         have BK166:=n1_
         have HB:=n2_
         clear n0_ n1_ n2_
         (try clear hb)
         (try clear hb2)
         (try clear hk)
         (try clear hi)
         refine hK.out _ _ ⟨(kC BK166.out 0).trans rfl,(kC BK166.out 1).trans rfl,(kC BK166.out 2).trans rfl,(kC BK166.out 3).trans rfl,(kC BK166.out 4).trans rfl,(kC BK166.out 5).trans rfl⟩ (fun hHeld => ?_)
         clear hK K
         refine norm_ (a':=?_) ?_ ?_
         rotate_left
         ·show Act.put _ (some 35) _ = _
          simp only [Act.put,sA,sZ,sS,i64_w,i32_w]
          rfl
         refine pure_ (i:=23) (N:=some 36) (v:=?_) (a':=?_) #[tt,tt,tt,tt,tt,tt,tt,tt,tt,tt,tt,tt,tt,tt,tt,tt,tt,tt,tt,tt,tt,tt,tt,tt,ff] rfl rfl (any_of HT_.out (by kernel_rfl)) (fun _ _ _ h => h) (Or.inl ⟨by rfl,?_⟩) ?_ ?_
         rotate_left
         ·intro w'
          go_simp
          with_reducible rfl
         rotate_left
         ·simp only [Act.put,sA,sZ,sS,i64_w,i32_w]
          rfl
         refine pure_ (i:=24) (N:=some 37) (v:=?_) (a':=?_) #[tt,tt,tt,tt,tt,tt,tt,tt,tt,tt,tt,tt,tt,tt,tt,tt,tt,tt,tt,tt,tt,tt,tt,tt,tt] rfl rfl (any_of HT_.out (by kernel_rfl)) (fun _ _ _ h => h) (Or.inl ⟨by rfl,?_⟩) ?_ ?_
         rotate_left
         ·intro w'
          go_simp
          with_reducible rfl
         rotate_left
         ·simp only [Act.put,sA,sZ,sS,i64_w,i32_w]
          rfl
         refine done_ (done_of HT_.out (by kernel_rfl)) ?_
         try go_wp2
         go_ret
         exact ⟨by first|rfl|(simp [errW_none,errW_some] <;> rfl)|(simp [*,errW_none,errW_some] <;> rfl),by repeat (first|(with_reducible first|exact HB.out|apply bA|apply bN|apply bD|refine bS ?_ GE164.out|refine bS ?_ GE166.out)|exact HB.out)⟩
     ·rw [if_neg c6] at H
      exact absurd H (by simp)
    ·rw [if_neg c5] at H
     exact absurd H (by simp)
   ·rw [if_neg c4] at H
    have c4b0 : decide (x8_1 < (l0_0.length : Int)) = false:=decide_eq_false c4
    clear c4
    obtain rfl:=Option.some.inj H
    have hcz51_0 : wr.cell? ⟨gb164,0,none⟩ = some (.slice A0_0 l0_0.length c0_0):=(kC BK164.out 0).trans rfl
    have hfz51_0:=blk_frozen BK164.out 0
    go_wp2
    go_ret
    exact ⟨by first|rfl|(simp [errW_none,errW_some] <;> rfl)|(simp [*,errW_none,errW_some] <;> rfl),by repeat (first|(with_reducible first|exact HB.out|apply bA|apply bN|apply bD|refine bS ?_ GE164.out)|exact HB.out)⟩
end Go.Proofs.Ytknlbfandkmeiaa.M
end
section
namespace Go.Proofs.Ytknlbfandkmeiaa.M
open Go.RowKit Go.Proofs.YtknlbfandkmeiaaW.PrintWords Go.Proofs.YtknlbfandkmeiaaW.PrintLast Go.Proofs.YtknlbfandkmeiaaW.PrintMore
attribute [local go_sem] max2_int min2_int max_two min_two max_three min_three max_four min_four   -- for this text's walks alone
def key_box.f (a0_0 : Int) (a0_1 : Int) (a0_2 : Int) (a0_3 : Int) : Option (Bool) := if a0_0 ≤ a0_1 then (some (decide (a0_2 ≤ a0_3))) else (some false)
set_option maxHeartbeats 8000000 in
set_option maxRecDepth 100000 in
theorem key_box.calls (a0_0 : Int) (a0_1 : Int) (a0_2 : Int) (a0_3 : Int) (r : Bool) (w : World) (h : key_box.f a0_0 a0_1 a0_2 a0_3 = some r) :
  Calls Try.prog 53 #[.agg #[.int .i64 a0_0,.int .i64 a0_1,.int .i64 a0_2,.int .i64 a0_3]] w fun e w' => e = .returned (.bool r)∧Below w.heap.size w w':=by
 have hu36:=Try.underlying36
 have HB:=Ak (Below.refl w.heap.size w)
 have H : (if a0_0 ≤ a0_1 then (some (decide (a0_2 ≤ a0_3))) else (some false)) = some r:=h
 clear h
 by_cases c2 : a0_0 ≤ a0_1
 ·rw [if_pos c2] at H
  have c2b0 : decide (a0_0 ≤ a0_1) = true:=decide_eq_true c2
  clear c2
  obtain rfl:=Option.some.inj H
  go_enter Try.func53,Try.ntmps53
  go_wp2_with (first|((with_reducible refine gate_dst (N:=1) rfl ?_);refine box_event ?hg (N:=1) ?hd (cs:=#[.int .i64 a0_0,.int .i64 a0_1,.int .i64 a0_2,.int .i64 a0_3]) (t:=36) ?hr ?_;(case hd => rfl);(case hg => rfl);(case hr => first|(go_simp;done)|(go_simp;rfl));intro gb101 hg w3 hbox hb;have n0_:=Ak (below_step (by repeat (first|(with_reducible first|exact HB.out|apply bA|apply bN|apply bD)|exact HB.out)) hb);have n1_:=Ak (hbox);have n2_:=Ak ((by rw [hg];exact (below_size (by repeat (first|(with_reducible first|exact HB.out|apply bA|apply bN|apply bD)|exact HB.out))) : w.heap.size ≤ gb101));have n3_:=Ak ((by rw [hg];exact (below_size (by repeat (first|(with_reducible first|exact HB.out|apply bA|apply bN|apply bD)|exact HB.out))) : w.heap.size ≤ gb101));clear HB;have HB:=n0_;have BK101:=n1_;have GW101:=n2_;have GE101:=n3_;clear n0_ n1_ n2_ n3_;clear hb hbox hg;have hcz4_0 : w3.cell? ⟨gb101,0,none⟩ = some (.int .i64 a0_0):=(kC BK101.out 0).trans rfl;have hcz4_1 : w3.cell? ⟨gb101,1,none⟩ = some (.int .i64 a0_1):=(kC BK101.out 1).trans rfl;have hcz4_2 : w3.cell? ⟨gb101,2,none⟩ = some (.int .i64 a0_2):=(kC BK101.out 2).trans rfl;have hcz4_3 : w3.cell? ⟨gb101,3,none⟩ = some (.int .i64 a0_3):=(kC BK101.out 3).trans rfl;have hfz4_0:=blk_frozen BK101.out 0;have hfz4_1:=blk_frozen BK101.out 1;have hfz4_2:=blk_frozen BK101.out 2;have hfz4_3:=blk_frozen BK101.out 3))
  go_ret
  exact ⟨by first|rfl|(simp [errW_none,errW_some] <;> rfl)|(simp [*,errW_none,errW_some] <;> rfl),by repeat (first|(with_reducible first|exact HB.out|apply bA|apply bN|apply bD|refine bS ?_ GE101.out)|exact HB.out)⟩
 ·rw [if_neg c2] at H
  have c2b0 : decide (a0_0 ≤ a0_1) = false:=decide_eq_false c2
  clear c2
  obtain rfl:=Option.some.inj H
  go_enter Try.func53,Try.ntmps53
  go_wp2_with (first|((with_reducible refine gate_dst (N:=1) rfl ?_);refine box_event ?hg (N:=1) ?hd (cs:=#[.int .i64 a0_0,.int .i64 a0_1,.int .i64 a0_2,.int .i64 a0_3]) (t:=36) ?hr ?_;(case hd => rfl);(case hg => rfl);(case hr => first|(go_simp;done)|(go_simp;rfl));intro gb101 hg w5 hbox hb;have n0_:=Ak (below_step (by repeat (first|(with_reducible first|exact HB.out|apply bA|apply bN|apply bD)|exact HB.out)) hb);have n1_:=Ak (hbox);have n2_:=Ak ((by rw [hg];exact (below_size (by repeat (first|(with_reducible first|exact HB.out|apply bA|apply bN|apply bD)|exact HB.out))) : w.heap.size ≤ gb101));have n3_:=Ak ((by rw [hg];exact (below_size (by repeat (first|(with_reducible first|exact HB.out|apply bA|apply bN|apply bD)|exact HB.out))) : w.heap.size ≤ gb101));clear HB;have HB:=n0_;have BK101:=n1_;have GW101:=n2_;have GE101:=n3_;clear n0_ n1_ n2_ n3_;clear hb hbox hg;have hcz6_0 : w5.cell? ⟨gb101,0,none⟩ = some (.int .i64 a0_0):=(kC BK101.out 0).trans rfl;have hcz6_1 : w5.cell? ⟨gb101,1,none⟩ = some (.int .i64 a0_1):=(kC BK101.out 1).trans rfl;have hcz6_2 : w5.cell? ⟨gb101,2,none⟩ = some (.int .i64 a0_2):=(kC BK101.out 2).trans rfl;have hcz6_3 : w5.cell? ⟨gb101,3,none⟩ = some (.int .i64 a0_3):=(kC BK101.out 3).trans rfl;have hfz6_0:=blk_frozen BK101.out 0;have hfz6_1:=blk_frozen BK101.out 1;have hfz6_2:=blk_frozen BK101.out 2;have hfz6_3:=blk_frozen BK101.out 3))
  go_ret
  exact ⟨by first|rfl|(simp [errW_none,errW_some] <;> rfl)|(simp [*,errW_none,errW_some] <;> rfl),by repeat (first|(with_reducible first|exact HB.out|apply bA|apply bN|apply bD|refine bS ?_ GE101.out)|exact HB.out)⟩
def key_Check.f (a0 : Int) (a1_0 : Int) (a1_1 : Int) (a1_2 : Int) (a1_3 : Int) : Option (Int) := (key_box.f a1_0 a1_1 a1_2 a1_3).bind fun t103 => (if a0 = 1 then (if t103 = true then (some 0) else (some 2)) else (if a0 = 2 then (if t103 = true then (if a1_2 = 0 then (if a1_3 = 0 then (some 0) else (some 2)) else (some 2)) else (some 2)) else (if a0 = 3 then (if t103 = true then (if a1_0 = a1_1 then (if a1_2 = a1_3 then (some 0) else (some 2)) else (some 2)) else (some 2)) else (some 2))))
set_option maxHeartbeats 8000000 in
set_option maxRecDepth 100000 in
theorem key_Check.calls (a0 : Int) (a1_0 : Int) (a1_1 : Int) (a1_2 : Int) (a1_3 : Int) (r : Int) (w : World) (h : key_Check.f a0 a1_0 a1_1 a1_2 a1_3 = some r) :
  Calls Try.prog 49 #[.int .i64 a0,.agg #[.int .i64 a1_0,.int .i64 a1_1,.int .i64 a1_2,.int .i64 a1_3]] w fun e w' => e = .returned (.int .i64 r)∧Below w.heap.size w w':=by
 have hu36:=Try.underlying36
 have HB:=Ak (Below.refl w.heap.size w)
 have H : ((key_box.f a1_0 a1_1 a1_2 a1_3).bind fun t103 => (if a0 = 1 then (if t103 = true then (some 0) else (some 2)) else (if a0 = 2 then (if t103 = true then (if a1_2 = 0 then (if a1_3 = 0 then (some 0) else (some 2)) else (some 2)) else (some 2)) else (if a0 = 3 then (if t103 = true then (if a1_0 = a1_1 then (if a1_2 = a1_3 then (some 0) else (some 2)) else (some 2)) else (some 2)) else (some 2))))) = some r:=h
 clear h
 replace H:=Option.bind_eq_some_iff.mp H
 obtain ⟨t103,A30,H⟩:=H
 replace H : (if a0 = 1 then (if t103 = true then (some 0) else (some 2)) else (if a0 = 2 then (if t103 = true then (if a1_2 = 0 then (if a1_3 = 0 then (some 0) else (some 2)) else (some 2)) else (some 2)) else (if a0 = 3 then (if t103 = true then (if a1_0 = a1_1 then (if a1_2 = a1_3 then (some 0) else (some 2)) else (some 2)) else (some 2)) else (some 2)))) = some r:=H
 have A3:=Ak A30
 clear A30
 by_cases c4 : a0 = 1
 ·rw [if_pos c4] at H
  have c4b0 : (a0 == 1) = true:=beq_iff_eq.mpr c4
  have c4b1 : (a0 != 1) = false:=bne_eq_false_iff_eq.mpr c4
  clear c4
  by_cases c5 : t103 = true
  ·subst c5
   have H1 : (some 0) = some r:=by rw [if_pos rfl] at H;exact H
   clear H
   have H:=H1
   clear H1
   obtain rfl:=Option.some.inj H
   go_enter Try.func49,Try.ntmps49
   go_wp2_with (first|((with_reducible refine gate_dst (N:=3) rfl ?_);refine box_event ?hg (N:=3) ?hd (cs:=#[.int .i64 a1_0,.int .i64 a1_1,.int .i64 a1_2,.int .i64 a1_3]) (t:=36) ?hr ?_;(case hd => rfl);(case hg => rfl);(case hr => first|(go_simp;done)|(go_simp;rfl));intro gb102 hg w6 hbox hb;have n0_:=Ak (below_step (by repeat (first|(with_reducible first|exact HB.out|apply bA|apply bN|apply bD)|exact HB.out)) hb);have n1_:=Ak (hbox);have n2_:=Ak ((by rw [hg];exact (below_size (by repeat (first|(with_reducible first|exact HB.out|apply bA|apply bN|apply bD)|exact HB.out))) : w.heap.size ≤ gb102));have n3_:=Ak ((by rw [hg];exact (below_size (by repeat (first|(with_reducible first|exact HB.out|apply bA|apply bN|apply bD)|exact HB.out))) : w.heap.size ≤ gb102));clear HB;have HB:=n0_;have BK102:=n1_;have GW102:=n2_;have GE102:=n3_;clear n0_ n1_ n2_ n3_;clear hb hbox hg;have hcz7_0 : w6.cell? ⟨gb102,0,none⟩ = some (.int .i64 a1_0):=(kC BK102.out 0).trans rfl;have hcz7_1 : w6.cell? ⟨gb102,1,none⟩ = some (.int .i64 a1_1):=(kC BK102.out 1).trans rfl;have hcz7_2 : w6.cell? ⟨gb102,2,none⟩ = some (.int .i64 a1_2):=(kC BK102.out 2).trans rfl;have hcz7_3 : w6.cell? ⟨gb102,3,none⟩ = some (.int .i64 a1_3):=(kC BK102.out 3).trans rfl;have hfz7_0:=blk_frozen BK102.out 0;have hfz7_1:=blk_frozen BK102.out 1;have hfz7_2:=blk_frozen BK102.out 2;have hfz7_3:=blk_frozen BK102.out 3)|((with_reducible refine gate_callee (f:=53) rfl ?_);refine goesL_ (some 7) rfl rfl Try.func53 (by kernel_rfl) rfl #[.agg #[.int .i64 a1_0,.int .i64 a1_1,.int .i64 a1_2,.int .i64 a1_3]] rfl (by (try simp only [List.map_toArray,List.map_cons,List.map_nil]);first|done|rfl|(simp only [List.length_drop,List.length_take];rfl)) ?_;(with_reducible refine (key_box.calls a1_0 a1_1 a1_2 a1_3 true _ A3.out).mono ?_);rintro e w8 ⟨rfl,hb⟩;refine ⟨_,rfl,?_⟩;have n0_:=Ak (kB (g:=gb102) (o:=.cells #[.int .i64 a1_0,.int .i64 a1_1,.int .i64 a1_2,.int .i64 a1_3] 36 (0,0)) (by (with_reducible repeat (first|refine kN ?_ _|refine kD ?_|refine kA ?_ _));exact BK102.out) hb);have n1_:=Ak (below_step (by repeat (first|(with_reducible first|exact HB.out|apply bA|apply bN|apply bD|refine bS ?_ GE102.out)|exact HB.out)) hb);clear BK102;clear HB;have BK102:=n0_;have HB:=n1_;clear n0_ n1_;(try clear hb);(try clear hb2);(try clear hk);(try clear hi)))
   go_ret
   exact ⟨by first|rfl|(simp [errW_none,errW_some] <;> rfl)|(simp [*,errW_none,errW_some] <;> rfl),by repeat (first|(with_reducible first|exact HB.out|apply bA|apply bN|apply bD|refine bS ?_ GE102.out)|exact HB.out)⟩
  ·replace c5:=Bool.eq_false_iff.mpr c5
   subst c5
   have H1 : (some 2) = some r:=by rw [if_neg (show ¬ (false = true) by decide)] at H;exact H
   clear H
   have H:=H1
   clear H1
   obtain rfl:=Option.some.inj H
   go_enter Try.func49,Try.ntmps49
   go_wp2_with (first|((with_reducible refine gate_dst (N:=3) rfl ?_);refine box_event ?hg (N:=3) ?hd (cs:=#[.int .i64 a1_0,.int .i64 a1_1,.int .i64 a1_2,.int .i64 a1_3]) (t:=36) ?hr ?_;(case hd => rfl);(case hg => rfl);(case hr => first|(go_simp;done)|(go_simp;rfl));intro gb102 hg w9 hbox hb;have n0_:=Ak (below_step (by repeat (first|(with_reducible first|exact HB.out|apply bA|apply bN|apply bD)|exact HB.out)) hb);have n1_:=Ak (hbox);have n2_:=Ak ((by rw [hg];exact (below_size (by repeat (first|(with_reducible first|exact HB.out|apply bA|apply bN|apply bD)|exact HB.out))) : w.heap.size ≤ gb102));have n3_:=Ak ((by rw [hg];exact (below_size (by repeat (first|(with_reducible first|exact HB.out|apply bA|apply bN|apply bD)|exact HB.out))) : w.heap.size ≤ gb102));clear HB;have HB:=n0_;have BK102:=n1_;have GW102:=n2_;have GE102:=n3_;clear n0_ n1_ n2_ n3_;clear hb hbox hg;have hcz10_0 : w9.cell? ⟨gb102,0,none⟩ = some (.int .i64 a1_0):=(kC BK102.out 0).trans rfl;have hcz10_1 : w9.cell? ⟨gb102,1,none⟩ = some (.int .i64 a1_1):=(kC BK102.out 1).trans rfl;have hcz10_2 : w9.cell? ⟨gb102,2,none⟩ = some (.int .i64 a1_2):=(kC BK102.out 2).trans rfl;have hcz10_3 : w9.cell? ⟨gb102,3,none⟩ = some (.int .i64 a1_3):=(kC BK102.out 3).trans rfl;have hfz10_0:=blk_frozen BK102.out 0;have hfz10_1:=blk_frozen BK102.out 1;have hfz10_2:=blk_frozen BK102.out 2;have hfz10_3:=blk_frozen BK102.out 3)|((with_reducible refine gate_callee (f:=53) rfl ?_);refine goesL_ (some 7) rfl rfl Try.func53 (by kernel_rfl) rfl #[.agg #[.int .i64 a1_0,.int .i64 a1_1,.int .i64 a1_2,.int .i64 a1_3]] rfl (by (try simp only [List.map_toArray,List.map_cons,List.map_nil]);first|done|rfl|(simp only [List.length_drop,List.length_take];rfl)) ?_;(with_reducible refine (key_box.calls a1_0 a1_1 a1_2 a1_3 false _ A3.out).mono ?_);rintro e w11 ⟨rfl,hb⟩;refine ⟨_,rfl,?_⟩;have n0_:=Ak (kB (g:=gb102) (o:=.cells #[.int .i64 a1_0,.int .i64 a1_1,.int .i64 a1_2,.int .i64 a1_3] 36 (0,0)) (by (with_reducible repeat (first|refine kN ?_ _|refine kD ?_|refine kA ?_ _));exact BK102.out) hb);have n1_:=Ak (below_step (by repeat (first|(with_reducible first|exact HB.out|apply bA|apply bN|apply bD|refine bS ?_ GE102.out)|exact HB.out)) hb);clear BK102;clear HB;have BK102:=n0_;have HB:=n1_;clear n0_ n1_;(try clear hb);(try clear hb2);(try clear hk);(try clear hi)))
   go_ret
   exact ⟨by first|rfl|(simp [errW_none,errW_some] <;> rfl)|(simp [*,errW_none,errW_some] <;> rfl),by repeat (first|(with_reducible first|exact HB.out|apply bA|apply bN|apply bD|refine bS ?_ GE102.out)|exact HB.out)⟩
 ·rw [if_neg c4] at H
  have c4b0 : (a0 == 1) = false:=beq_eq_false_iff_ne.mpr c4
  have c4b1 : (a0 != 1) = true:=bne_iff_ne.mpr c4
  by_cases c12 : a0 = 2
  ·rw [if_pos c12] at H
   have c12b0 : (a0 == 2) = true:=beq_iff_eq.mpr c12
   have c12b1 : (a0 != 2) = false:=bne_eq_false_iff_eq.mpr c12
   clear c12
   by_cases c13 : t103 = true
   ·subst c13
    have H1 : (if a1_2 = 0 then (if a1_3 = 0 then (some 0) else (some 2)) else (some 2)) = some r:=by rw [if_pos rfl] at H;exact H
    clear H
    have H:=H1
    clear H1
    by_cases c14 : a1_2 = 0
    ·rw [if_pos c14] at H
     have c14b0 : (a1_2 == 0) = true:=beq_iff_eq.mpr c14
     have c14b1 : (a1_2 != 0) = false:=bne_eq_false_iff_eq.mpr c14
     clear c14
     by_cases c15 : a1_3 = 0
     ·rw [if_pos c15] at H
      have c15b0 : (a1_3 == 0) = true:=beq_iff_eq.mpr c15
      have c15b1 : (a1_3 != 0) = false:=bne_eq_false_iff_eq.mpr c15
      clear c15
      obtain rfl:=Option.some.inj H
      go_enter Try.func49,Try.ntmps49
      go_wp2_with (first|((with_reducible refine gate_dst (N:=3) rfl ?_);refine box_event ?hg (N:=3) ?hd (cs:=#[.int .i64 a1_0,.int .i64 a1_1,.int .i64 a1_2,.int .i64 a1_3]) (t:=36) ?hr ?_;(case hd => rfl);(case hg => rfl);(case hr => first|(go_simp;done)|(go_simp;rfl));intro gb102 hg w16 hbox hb;have n0_:=Ak (below_step (by repeat (first|(with_reducible first|exact HB.out|apply bA|apply bN|apply bD)|exact HB.out)) hb);have n1_:=Ak (hbox);have n2_:=Ak ((by rw [hg];exact (below_size (by repeat (first|(with_reducible first|exact HB.out|apply bA|apply bN|apply bD)|exact HB.out))) : w.heap.size ≤ gb102));have n3_:=Ak ((by rw [hg];exact (below_size (by repeat (first|(with_reducible first|exact HB.out|apply bA|apply bN|apply bD)|exact HB.out))) : w.heap.size ≤ gb102));clear HB;have HB:=n0_;have BK102:=n1_;have GW102:=n2_;have GE102:=n3_;clear n0_ n1_ n2_ n3_;clear hb hbox hg;have hcz17_0 : w16.cell? ⟨gb102,0,none⟩ = some (.int .i64 a1_0):=(kC BK102.out 0).trans rfl;have hcz17_1 : w16.cell? ⟨gb102,1,none⟩ = some (.int .i64 a1_1):=(kC BK102.out 1).trans rfl;have hcz17_2 : w16.cell? ⟨gb102,2,none⟩ = some (.int .i64 a1_2):=(kC BK102.out 2).trans rfl;have hcz17_3 : w16.cell? ⟨gb102,3,none⟩ = some (.int .i64 a1_3):=(kC BK102.out 3).trans rfl;have hfz17_0:=blk_frozen BK102.out 0;have hfz17_1:=blk_frozen BK102.out 1;have hfz17_2:=blk_frozen BK102.out 2;have hfz17_3:=blk_frozen BK102.out 3)|((with_reducible refine gate_callee (f:=53) rfl ?_);refine goesL_ (some 7) rfl rfl Try.func53 (by kernel_rfl) rfl #[.agg #[.int .i64 a1_0,.int .i64 a1_1,.int .i64 a1_2,.int .i64 a1_3]] rfl (by (try simp only [List.map_toArray,List.map_cons,List.map_nil]);first|done|rfl|(simp only [List.length_drop,List.length_take];rfl)) ?_;(with_reducible refine (key_box.calls a1_0 a1_1 a1_2 a1_3 true _ A3.out).mono ?_);rintro e w18 ⟨rfl,hb⟩;refine ⟨_,rfl,?_⟩;have n0_:=Ak (kB (g:=gb102) (o:=.cells #[.int .i64 a1_0,.int .i64 a1_1,.int .i64 a1_2,.int .i64 a1_3] 36 (0,0)) (by (with_reducible repeat (first|refine kN ?_ _|refine kD ?_|refine kA ?_ _));exact BK102.out) hb);have n1_:=Ak (below_step (by repeat (first|(with_reducible first|exact HB.out|apply bA|apply bN|apply bD|refine bS ?_ GE102.out)|exact HB.out)) hb);clear BK102;clear HB;have BK102:=n0_;have HB:=n1_;clear n0_ n1_;(try clear hb);(try clear hb2);(try clear hk);(try clear hi);have hcz19_0 : w18.cell? ⟨gb102,0,none⟩ = some (.int .i64 a1_0):=(kC BK102.out 0).trans rfl;have hcz19_1 : w18.cell? ⟨gb102,1,none⟩ = some (.int .i64 a1_1):=(kC BK102.out 1).trans rfl;have hcz19_2 : w18.cell? ⟨gb102,2,none⟩ = some (.int .i64 a1_2):=(kC BK102.out 2).trans rfl;have hcz19_3 : w18.cell? ⟨gb102,3,none⟩ = some (.int .i64 a1_3):=(kC BK102.out 3).trans rfl;have hfz19_0:=blk_frozen BK102.out 0;have hfz19_1:=blk_frozen BK102.out 1;have hfz19_2:=blk_frozen BK102.out 2;have hfz19_3:=blk_frozen BK102.out 3))
      go_ret
      exact ⟨by first|rfl|(simp [errW_none,errW_some] <;> rfl)|(simp [*,errW_none,errW_some] <;> rfl),by repeat (first|(with_reducible first|exact HB.out|apply bA|apply bN|apply bD|refine bS ?_ GE102.out)|exact HB.out)⟩
     ·rw [if_neg c15] at H
      have c15b0 : (a1_3 == 0) = false:=beq_eq_false_iff_ne.mpr c15
      have c15b1 : (a1_3 != 0) = true:=bne_iff_ne.mpr c15
      obtain rfl:=Option.some.inj H
      go_enter Try.func49,Try.ntmps49
      go_wp2_with (first|((with_reducible refine gate_dst (N:=3) rfl ?_);refine box_event ?hg (N:=3) ?hd (cs:=#[.int .i64 a1_0,.int .i64 a1_1,.int .i64 a1_2,.int .i64 a1_3]) (t:=36) ?hr ?_;(case hd => rfl);(case hg => rfl);(case hr => first|(go_simp;done)|(go_simp;rfl));intro gb102 hg w20 hbox hb;have n0_:=Ak (below_step (by repeat (first|(with_reducible first|exact HB.out|apply bA|apply bN|apply bD)|exact HB.out)) hb);have n1_:=Ak (hbox);have n2_:=Ak ((by rw [hg];exact (below_size (by repeat (first|(with_reducible first|exact HB.out|apply bA|apply bN|apply bD)|exact HB.out))) : w.heap.size ≤ gb102));have n3_:=Ak ((by rw [hg];exact (below_size (by repeat (first|(with_reducible first|exact HB.out|apply bA|apply bN|apply bD)|exact HB.out))) : w.heap.size ≤ gb102));clear HB;have HB:=n0_;have BK102:=n1_;have GW102:=n2_;have GE102:=n3_;clear n0_ n1_ n2_ n3_;clear hb hbox hg;have hcz21_0 : w20.cell? ⟨gb102,0,none⟩ = some (.int .i64 a1_0):=(kC BK102.out 0).trans rfl;have hcz21_1 : w20.cell? ⟨gb102,1,none⟩ = some (.int .i64 a1_1):=(kC BK102.out 1).trans rfl;have hcz21_2 : w20.cell? ⟨gb102,2,none⟩ = some (.int .i64 a1_2):=(kC BK102.out 2).trans rfl;have hcz21_3 : w20.cell? ⟨gb102,3,none⟩ = some (.int .i64 a1_3):=(kC BK102.out 3).trans rfl;have hfz21_0:=blk_frozen BK102.out 0;have hfz21_1:=blk_frozen BK102.out 1;have hfz21_2:=blk_frozen BK102.out 2;have hfz21_3:=blk_frozen BK102.out 3)|((with_reducible refine gate_callee (f:=53) rfl ?_);refine goesL_ (some 7) rfl rfl Try.func53 (by kernel_rfl) rfl #[.agg #[.int .i64 a1_0,.int .i64 a1_1,.int .i64 a1_2,.int .i64 a1_3]] rfl (by (try simp only [List.map_toArray,List.map_cons,List.map_nil]);first|done|rfl|(simp only [List.length_drop,List.length_take];rfl)) ?_;(with_reducible refine (key_box.calls a1_0 a1_1 a1_2 a1_3 true _ A3.out).mono ?_);rintro e w22 ⟨rfl,hb⟩;refine ⟨_,rfl,?_⟩;have n0_:=Ak (kB (g:=gb102) (o:=.cells #[.int .i64 a1_0,.int .i64 a1_1,.int .i64 a1_2,.int .i64 a1_3] 36 (0,0)) (by (with_reducible repeat (first|refine kN ?_ _|refine kD ?_|refine kA ?_ _));exact BK102.out) hb);have n1_:=Ak (below_step (by repeat (first|(with_reducible first|exact HB.out|apply bA|apply bN|apply bD|refine bS ?_ GE102.out)|exact HB.out)) hb);clear BK102;clear HB;have BK102:=n0_;have HB:=n1_;clear n0_ n1_;(try clear hb);(try clear hb2);(try clear hk);(try clear hi);have hcz23_0 : w22.cell? ⟨gb102,0,none⟩ = some (.int .i64 a1_0):=(kC BK102.out 0).trans rfl;have hcz23_1 : w22.cell? ⟨gb102,1,none⟩ = some (.int .i64 a1_1):=(kC BK102.out 1).trans rfl;have hcz23_2 : w22.cell? ⟨gb102,2,none⟩ = some (.int .i64 a1_2):=(kC BK102.out 2).trans rfl;have hcz23_3 : w22.cell? ⟨gb102,3,none⟩ = some (.int .i64 a1_3):=(kC BK102.out 3).trans rfl;have hfz23_0:=blk_frozen BK102.out 0;have hfz23_1:=blk_frozen BK102.out 1;have hfz23_2:=blk_frozen BK102.out 2;have hfz23_3:=blk_frozen BK102.out 3))
      go_ret
      exact ⟨by first|rfl|(simp [errW_none,errW_some] <;> rfl)|(simp [*,errW_none,errW_some] <;> rfl),by repeat (first|(with_reducible first|exact HB.out|apply bA|apply bN|apply bD|refine bS ?_ GE102.out)|exact HB.out)⟩
    ·rw [if_neg c14] at H
     have c14b0 : (a1_2 == 0) = false:=beq_eq_false_iff_ne.mpr c14
     have c14b1 : (a1_2 != 0) = true:=bne_iff_ne.mpr c14
     obtain rfl:=Option.some.inj H
     go_enter Try.func49,Try.ntmps49
     go_wp2_with (first|((with_reducible refine gate_dst (N:=3) rfl ?_);refine box_event ?hg (N:=3) ?hd (cs:=#[.int .i64 a1_0,.int .i64 a1_1,.int .i64 a1_2,.int .i64 a1_3]) (t:=36) ?hr ?_;(case hd => rfl);(case hg => rfl);(case hr => first|(go_simp;done)|(go_simp;rfl));intro gb102 hg w24 hbox hb;have n0_:=Ak (below_step (by repeat (first|(with_reducible first|exact HB.out|apply bA|apply bN|apply bD)|exact HB.out)) hb);have n1_:=Ak (hbox);have n2_:=Ak ((by rw [hg];exact (below_size (by repeat (first|(with_reducible first|exact HB.out|apply bA|apply bN|apply bD)|exact HB.out))) : w.heap.size ≤ gb102));have n3_:=Ak ((by rw [hg];exact (below_size (by repeat (first|(with_reducible first|exact HB.out|apply bA|apply bN|apply bD)|exact HB.out))) : w.heap.size ≤ gb102));clear HB;have HB:=n0_;have BK102:=n1_;have GW102:=n2_;have GE102:=n3_;clear n0_ n1_ n2_ n3_;clear hb hbox hg;have hcz25_0 : w24.cell? ⟨gb102,0,none⟩ = some (.int .i64 a1_0):=(kC BK102.out 0).trans rfl;have hcz25_1 : w24.cell? ⟨gb102,1,none⟩ = some (.int .i64 a1_1):=(kC BK102.out 1).trans rfl;have hcz25_2 : w24.cell? ⟨gb102,2,none⟩ = some (.int .i64 a1_2):=(kC BK102.out 2).trans rfl;have hcz25_3 : w24.cell? ⟨gb102,3,none⟩ = some (.int .i64 a1_3):=(kC BK102.out 3).trans rfl;have hfz25_0:=blk_frozen BK102.out 0;have hfz25_1:=blk_frozen BK102.out 1;have hfz25_2:=blk_frozen BK102.out 2;have hfz25_3:=blk_frozen BK102.out 3)|((with_reducible refine gate_callee (f:=53) rfl ?_);refine goesL_ (some 7) rfl rfl Try.func53 (by kernel_rfl) rfl #[.agg #[.int .i64 a1_0,.int .i64 a1_1,.int .i64 a1_2,.int .i64 a1_3]] rfl (by (try simp only [List.map_toArray,List.map_cons,List.map_nil]);first|done|rfl|(simp only [List.length_drop,List.length_take];rfl)) ?_;(with_reducible refine (key_box.calls a1_0 a1_1 a1_2 a1_3 true _ A3.out).mono ?_);rintro e w26 ⟨rfl,hb⟩;refine ⟨_,rfl,?_⟩;have n0_:=Ak (kB (g:=gb102) (o:=.cells #[.int .i64 a1_0,.int .i64 a1_1,.int .i64 a1_2,.int .i64 a1_3] 36 (0,0)) (by (with_reducible repeat (first|refine kN ?_ _|refine kD ?_|refine kA ?_ _));exact BK102.out) hb);have n1_:=Ak (below_step (by repeat (first|(with_reducible first|exact HB.out|apply bA|apply bN|apply bD|refine bS ?_ GE102.out)|exact HB.out)) hb);clear BK102;clear HB;have BK102:=n0_;have HB:=n1_;clear n0_ n1_;(try clear hb);(try clear hb2);(try clear hk);(try clear hi);have hcz27_0 : w26.cell? ⟨gb102,0,none⟩ = some (.int .i64 a1_0):=(kC BK102.out 0).trans rfl;have hcz27_1 : w26.cell? ⟨gb102,1,none⟩ = some (.int .i64 a1_1):=(kC BK102.out 1).trans rfl;have hcz27_2 : w26.cell? ⟨gb102,2,none⟩ = some (.int .i64 a1_2):=(kC BK102.out 2).trans rfl;have hcz27_3 : w26.cell? ⟨gb102,3,none⟩ = some (.int .i64 a1_3):=(kC BK102.out 3).trans rfl;have hfz27_0:=blk_frozen BK102.out 0;have hfz27_1:=blk_frozen BK102.out 1;have hfz27_2:=blk_frozen BK102.out 2;have hfz27_3:=blk_frozen BK102.out 3))
     go_ret
     exact ⟨by first|rfl|(simp [errW_none,errW_some] <;> rfl)|(simp [*,errW_none,errW_some] <;> rfl),by repeat (first|(with_reducible first|exact HB.out|apply bA|apply bN|apply bD|refine bS ?_ GE102.out)|exact HB.out)⟩
   ·replace c13:=Bool.eq_false_iff.mpr c13
    subst c13
    have H1 : (some 2) = some r:=by rw [if_neg (show ¬ (false = true) by decide)] at H;exact H
    clear H
    have H:=H1
    clear H1
    obtain rfl:=Option.some.inj H
    go_enter Try.func49,Try.ntmps49
    go_wp2_with (first|((with_reducible refine gate_dst (N:=3) rfl ?_);refine box_event ?hg (N:=3) ?hd (cs:=#[.int .i64 a1_0,.int .i64 a1_1,.int .i64 a1_2,.int .i64 a1_3]) (t:=36) ?hr ?_;(case hd => rfl);(case hg => rfl);(case hr => first|(go_simp;done)|(go_simp;rfl));intro gb102 hg w28 hbox hb;have n0_:=Ak (below_step (by repeat (first|(with_reducible first|exact HB.out|apply bA|apply bN|apply bD)|exact HB.out)) hb);have n1_:=Ak (hbox);have n2_:=Ak ((by rw [hg];exact (below_size (by repeat (first|(with_reducible first|exact HB.out|apply bA|apply bN|apply bD)|exact HB.out))) : w.heap.size ≤ gb102));have n3_:=Ak ((by rw [hg];exact (below_size (by repeat (first|(with_reducible first|exact HB.out|apply bA|apply bN|apply bD)|exact HB.out))) : w.heap.size ≤ gb102));clear HB;have HB:=n0_;have BK102:=n1_;have GW102:=n2_;have GE102:=n3_;clear n0_ n1_ n2_ n3_;clear hb hbox hg;have hcz29_0 : w28.cell? ⟨gb102,0,none⟩ = some (.int .i64 a1_0):=(kC BK102.out 0).trans rfl;have hcz29_1 : w28.cell? ⟨gb102,1,none⟩ = some (.int .i64 a1_1):=(kC BK102.out 1).trans rfl;have hcz29_2 : w28.cell? ⟨gb102,2,none⟩ = some (.int .i64 a1_2):=(kC BK102.out 2).trans rfl;have hcz29_3 : w28.cell? ⟨gb102,3,none⟩ = some (.int .i64 a1_3):=(kC BK102.out 3).trans rfl;have hfz29_0:=blk_frozen BK102.out 0;have hfz29_1:=blk_frozen BK102.out 1;have hfz29_2:=blk_frozen BK102.out 2;have hfz29_3:=blk_frozen BK102.out 3)|((with_reducible refine gate_callee (f:=53) rfl ?_);refine goesL_ (some 7) rfl rfl Try.func53 (by kernel_rfl) rfl #[.agg #[.int .i64 a1_0,.int .i64 a1_1,.int .i64 a1_2,.int .i64 a1_3]] rfl (by (try simp only [List.map_toArray,List.map_cons,List.map_nil]);first|done|rfl|(simp only [List.length_drop,List.length_take];rfl)) ?_;(with_reducible refine (key_box.calls a1_0 a1_1 a1_2 a1_3 false _ A3.out).mono ?_);rintro e w30 ⟨rfl,hb⟩;refine ⟨_,rfl,?_⟩;have n0_:=Ak (kB (g:=gb102) (o:=.cells #[.int .i64 a1_0,.int .i64 a1_1,.int .i64 a1_2,.int .i64 a1_3] 36 (0,0)) (by (with_reducible repeat (first|refine kN ?_ _|refine kD ?_|refine kA ?_ _));exact BK102.out) hb);have n1_:=Ak (below_step (by repeat (first|(with_reducible first|exact HB.out|apply bA|apply bN|apply bD|refine bS ?_ GE102.out)|exact HB.out)) hb);clear BK102;clear HB;have BK102:=n0_;have HB:=n1_;clear n0_ n1_;(try clear hb);(try clear hb2);(try clear hk);(try clear hi)))
    go_ret
    exact ⟨by first|rfl|(simp [errW_none,errW_some] <;> rfl)|(simp [*,errW_none,errW_some] <;> rfl),by repeat (first|(with_reducible first|exact HB.out|apply bA|apply bN|apply bD|refine bS ?_ GE102.out)|exact HB.out)⟩
  ·rw [if_neg c12] at H
   have c12b0 : (a0 == 2) = false:=beq_eq_false_iff_ne.mpr c12
   have c12b1 : (a0 != 2) = true:=bne_iff_ne.mpr c12
   by_cases c31 : a0 = 3
   ·rw [if_pos c31] at H
    have c31b0 : (a0 == 3) = true:=beq_iff_eq.mpr c31
    have c31b1 : (a0 != 3) = false:=bne_eq_false_iff_eq.mpr c31
    clear c31
    by_cases c32 : t103 = true
    ·subst c32
     have H1 : (if a1_0 = a1_1 then (if a1_2 = a1_3 then (some 0) else (some 2)) else (some 2)) = some r:=by rw [if_pos rfl] at H;exact H
     clear H
     have H:=H1
     clear H1
     by_cases c33 : a1_0 = a1_1
     ·rw [if_pos c33] at H
      have c33b0 : (a1_0 == a1_1) = true:=beq_iff_eq.mpr c33
      have c33b1 : (a1_0 != a1_1) = false:=bne_eq_false_iff_eq.mpr c33
      clear c33
      by_cases c34 : a1_2 = a1_3
      ·rw [if_pos c34] at H
       have c34b0 : (a1_2 == a1_3) = true:=beq_iff_eq.mpr c34
       have c34b1 : (a1_2 != a1_3) = false:=bne_eq_false_iff_eq.mpr c34
       clear c34
       obtain rfl:=Option.some.inj H
       go_enter Try.func49,Try.ntmps49
       go_wp2_with (first|((with_reducible refine gate_dst (N:=3) rfl ?_);refine box_event ?hg (N:=3) ?hd (cs:=#[.int .i64 a1_0,.int .i64 a1_1,.int .i64 a1_2,.int .i64 a1_3]) (t:=36) ?hr ?_;(case hd => rfl);(case hg => rfl);(case hr => first|(go_simp;done)|(go_simp;rfl));intro gb102 hg w35 hbox hb;have n0_:=Ak (below_step (by repeat (first|(with_reducible first|exact HB.out|apply bA|apply bN|apply bD)|exact HB.out)) hb);have n1_:=Ak (hbox);have n2_:=Ak ((by rw [hg];exact (below_size (by repeat (first|(with_reducible first|exact HB.out|apply bA|apply bN|apply bD)|exact HB.out))) : w.heap.size ≤ gb102));have n3_:=Ak ((by rw [hg];exact (below_size (by repeat (first|(with_reducible first|exact HB.out|apply bA|apply bN|apply bD)|exact HB.out))) : w.heap.size ≤ gb102));clear HB;have HB:=n0_;have BK102:=n1_;have GW102:=n2_;have GE102:=n3_;clear n0_ n1_ n2_ n3_;clear hb hbox hg;have hcz36_0 : w35.cell? ⟨gb102,0,none⟩ = some (.int .i64 a1_0):=(kC BK102.out 0).trans rfl;have hcz36_1 : w35.cell? ⟨gb102,1,none⟩ = some (.int .i64 a1_1):=(kC BK102.out 1).trans rfl;have hcz36_2 : w35.cell? ⟨gb102,2,none⟩ = some (.int .i64 a1_2):=(kC BK102.out 2).trans rfl;have hcz36_3 : w35.cell? ⟨gb102,3,none⟩ = some (.int .i64 a1_3):=(kC BK102.out 3).trans rfl;have hfz36_0:=blk_frozen BK102.out 0;have hfz36_1:=blk_frozen BK102.out 1;have hfz36_2:=blk_frozen BK102.out 2;have hfz36_3:=blk_frozen BK102.out 3)|((with_reducible refine gate_callee (f:=53) rfl ?_);refine goesL_ (some 7) rfl rfl Try.func53 (by kernel_rfl) rfl #[.agg #[.int .i64 a1_0,.int .i64 a1_1,.int .i64 a1_2,.int .i64 a1_3]] rfl (by (try simp only [List.map_toArray,List.map_cons,List.map_nil]);first|done|rfl|(simp only [List.length_drop,List.length_take];rfl)) ?_;(with_reducible refine (key_box.calls a1_0 a1_1 a1_2 a1_3 true _ A3.out).mono ?_);rintro e w37 ⟨rfl,hb⟩;refine ⟨_,rfl,?_⟩;have n0_:=Ak (kB (g:=gb102) (o:=.cells #[.int .i64 a1_0,.int .i64 a1_1,.int .i64 a1_2,.int .i64 a1_3] 36 (0,0)) (by (with_reducible repeat (first|refine kN ?_ _|refine kD ?_|refine kA ?_ _));exact BK102.out) hb);have n1_:=Ak (below_step (by repeat (first|(with_reducible first|exact HB.out|apply bA|apply bN|apply bD|refine bS ?_ GE102.out)|exact HB.out)) hb);clear BK102;clear HB;have BK102:=n0_;have HB:=n1_;clear n0_ n1_;(try clear hb);(try clear hb2);(try clear hk);(try clear hi);have hcz38_0 : w37.cell? ⟨gb102,0,none⟩ = some (.int .i64 a1_0):=(kC BK102.out 0).trans rfl;have hcz38_1 : w37.cell? ⟨gb102,1,none⟩ = some (.int .i64 a1_1):=(kC BK102.out 1).trans rfl;have hcz38_2 : w37.cell? ⟨gb102,2,none⟩ = some (.int .i64 a1_2):=(kC BK102.out 2).trans rfl;have hcz38_3 : w37.cell? ⟨gb102,3,none⟩ = some (.int .i64 a1_3):=(kC BK102.out 3).trans rfl;have hfz38_0:=blk_frozen BK102.out 0;have hfz38_1:=blk_frozen BK102.out 1;have hfz38_2:=blk_frozen BK102.out 2;have hfz38_3:=blk_frozen BK102.out 3))
       go_ret
       exact ⟨by first|rfl|(simp [errW_none,errW_some] <;> rfl)|(simp [*,errW_none,errW_some] <;> rfl),by repeat (first|(with_reducible first|exact HB.out|apply bA|apply bN|apply bD|refine bS ?_ GE102.out)|exact HB.out)⟩
      ·rw [if_neg c34] at H
       have c34b0 : (a1_2 == a1_3) = false:=beq_eq_false_iff_ne.mpr c34
       have c34b1 : (a1_2 != a1_3) = true:=bne_iff_ne.mpr c34
       obtain rfl:=Option.some.inj H
       go_enter Try.func49,Try.ntmps49
       go_wp2_with (first|((with_reducible refine gate_dst (N:=3) rfl ?_);refine box_event ?hg (N:=3) ?hd (cs:=#[.int .i64 a1_0,.int .i64 a1_1,.int .i64 a1_2,.int .i64 a1_3]) (t:=36) ?hr ?_;(case hd => rfl);(case hg => rfl);(case hr => first|(go_simp;done)|(go_simp;rfl));intro gb102 hg w39 hbox hb;have n0_:=Ak (below_step (by repeat (first|(with_reducible first|exact HB.out|apply bA|apply bN|apply bD)|exact HB.out)) hb);have n1_:=Ak (hbox);have n2_:=Ak ((by rw [hg];exact (below_size (by repeat (first|(with_reducible first|exact HB.out|apply bA|apply bN|apply bD)|exact HB.out))) : w.heap.size ≤ gb102));have n3_:=Ak ((by rw [hg];exact (below_size (by repeat (first|(with_reducible first|exact HB.out|apply bA|apply bN|apply bD)|exact HB.out))) : w.heap.size ≤ gb102));clear HB;have HB:=n0_;have BK102:=n1_;have GW102:=n2_;have GE102:=n3_;clear n0_ n1_ n2_ n3_;clear hb hbox hg;have hcz40_0 : w39.cell? ⟨gb102,0,none⟩ = some (.int .i64 a1_0):=(kC BK102.out 0).trans rfl;have hcz40_1 : w39.cell? ⟨gb102,1,none⟩ = some (.int .i64 a1_1):=(kC BK102.out 1).trans rfl;have hcz40_2 : w39.cell? ⟨gb102,2,none⟩ = some (.int .i64 a1_2):=(kC BK102.out 2).trans rfl;have hcz40_3 : w39.cell? ⟨gb102,3,none⟩ = some (.int .i64 a1_3):=(kC BK102.out 3).trans rfl;have hfz40_0:=blk_frozen BK102.out 0;have hfz40_1:=blk_frozen BK102.out 1;have hfz40_2:=blk_frozen BK102.out 2;have hfz40_3:=blk_frozen BK102.out 3)|((with_reducible refine gate_callee (f:=53) rfl ?_);refine goesL_ (some 7) rfl rfl Try.func53 (by kernel_rfl) rfl #[.agg #[.int .i64 a1_0,.int .i64 a1_1,.int .i64 a1_2,.int .i64 a1_3]] rfl (by (try simp only [List.map_toArray,List.map_cons,List.map_nil]);first|done|rfl|(simp only [List.length_drop,List.length_take];rfl)) ?_;(with_reducible refine (key_box.calls a1_0 a1_1 a1_2 a1_3 true _ A3.out).mono ?_);rintro e w41 ⟨rfl,hb⟩;refine ⟨_,rfl,?_⟩;have n0_:=Ak (kB (g:=gb102) (o:=.cells #[.int .i64 a1_0,.int .i64 a1_1,.int .i64 a1_2,.int .i64 a1_3] 36 (0,0)) (by (with_reducible repeat (first|refine kN ?_ _|refine kD ?_|refine kA ?_ _));exact BK102.out) hb);have n1_:=Ak (below_step (by repeat (first|(with_reducible first|exact HB.out|apply bA|apply bN|apply bD|refine bS ?_ GE102.out)|exact HB.out)) hb);clear BK102;clear HB;have BK102:=n0_;have HB:=n1_;clear n0_ n1_;(try clear hb);(try clear hb2);(try clear hk);(try clear hi);have hcz42_0 : w41.cell? ⟨gb102,0,none⟩ = some (.int .i64 a1_0):=(kC BK102.out 0).trans rfl;have hcz42_1 : w41.cell? ⟨gb102,1,none⟩ = some (.int .i64 a1_1):=(kC BK102.out 1).trans rfl;have hcz42_2 : w41.cell? ⟨gb102,2,none⟩ = some (.int .i64 a1_2):=(kC BK102.out 2).trans rfl;have hcz42_3 : w41.cell? ⟨gb102,3,none⟩ = some (.int .i64 a1_3):=(kC BK102.out 3).trans rfl;have hfz42_0:=blk_frozen BK102.out 0;have hfz42_1:=blk_frozen BK102.out 1;have hfz42_2:=blk_frozen BK102.out 2;have hfz42_3:=blk_frozen BK102.out 3))
       go_ret
       exact ⟨by first|rfl|(simp [errW_none,errW_some] <;> rfl)|(simp [*,errW_none,errW_some] <;> rfl),by repeat (first|(with_reducible first|exact HB.out|apply bA|apply bN|apply bD|refine bS ?_ GE102.out)|exact HB.out)⟩
     ·rw [if_neg c33] at H
      have c33b0 : (a1_0 == a1_1) = false:=beq_eq_false_iff_ne.mpr c33
      have c33b1 : (a1_0 != a1_1) = true:=bne_iff_ne.mpr c33
      obtain rfl:=Option.some.inj H
      go_enter Try.func49,Try.ntmps49
      go_wp2_with (first|((with_reducible refine gate_dst (N:=3) rfl ?_);refine box_event ?hg (N:=3) ?hd (cs:=#[.int .i64 a1_0,.int .i64 a1_1,.int .i64 a1_2,.int .i64 a1_3]) (t:=36) ?hr ?_;(case hd => rfl);(case hg => rfl);(case hr => first|(go_simp;done)|(go_simp;rfl));intro gb102 hg w43 hbox hb;have n0_:=Ak (below_step (by repeat (first|(with_reducible first|exact HB.out|apply bA|apply bN|apply bD)|exact HB.out)) hb);have n1_:=Ak (hbox);have n2_:=Ak ((by rw [hg];exact (below_size (by repeat (first|(with_reducible first|exact HB.out|apply bA|apply bN|apply bD)|exact HB.out))) : w.heap.size ≤ gb102));have n3_:=Ak ((by rw [hg];exact (below_size (by repeat (first|(with_reducible first|exact HB.out|apply bA|apply bN|apply bD)|exact HB.out))) : w.heap.size ≤ gb102));clear HB;have HB:=n0_;have BK102:=n1_;have GW102:=n2_;have GE102:=n3_;clear n0_ n1_ n2_ n3_;clear hb hbox hg;have hcz44_0 : w43.cell? ⟨gb102,0,none⟩ = some (.int .i64 a1_0):=(kC BK102.out 0).trans rfl;have hcz44_1 : w43.cell? ⟨gb102,1,none⟩ = some (.int .i64 a1_1):=(kC BK102.out 1).trans rfl;have hcz44_2 : w43.cell? ⟨gb102,2,none⟩ = some (.int .i64 a1_2):=(kC BK102.out 2).trans rfl;have hcz44_3 : w43.cell? ⟨gb102,3,none⟩ = some (.int .i64 a1_3):=(kC BK102.out 3).trans rfl;have hfz44_0:=blk_frozen BK102.out 0;have hfz44_1:=blk_frozen BK102.out 1;have hfz44_2:=blk_frozen BK102.out 2;have hfz44_3:=blk_frozen BK102.out 3)|((with_reducible refine gate_callee (f:=53) rfl ?_);refine goesL_ (some 7) rfl rfl Try.func53 (by kernel_rfl) rfl #[.agg #[.int .i64 a1_0,.int .i64 a1_1,.int .i64 a1_2,.int .i64 a1_3]] rfl (by (try simp only [List.map_toArray,List.map_cons,List.map_nil]);first|done|rfl|(simp only [List.length_drop,List.length_take];rfl)) ?_;(with_reducible refine (key_box.calls a1_0 a1_1 a1_2 a1_3 true _ A3.out).mono ?_);rintro e w45 ⟨rfl,hb⟩;refine ⟨_,rfl,?_⟩;have n0_:=Ak (kB (g:=gb102) (o:=.cells #[.int .i64 a1_0,.int .i64 a1_1,.int .i64 a1_2,.int .i64 a1_3] 36 (0,0)) (by (with_reducible repeat (first|refine kN ?_ _|refine kD ?_|refine kA ?_ _));exact BK102.out) hb);have n1_:=Ak (below_step (by repeat (first|(with_reducible first|exact HB.out|apply bA|apply bN|apply bD|refine bS ?_ GE102.out)|exact HB.out)) hb);clear BK102;clear HB;have BK102:=n0_;have HB:=n1_;clear n0_ n1_;(try clear hb);(try clear hb2);(try clear hk);(try clear hi);have hcz46_0 : w45.cell? ⟨gb102,0,none⟩ = some (.int .i64 a1_0):=(kC BK102.out 0).trans rfl;have hcz46_1 : w45.cell? ⟨gb102,1,none⟩ = some (.int .i64 a1_1):=(kC BK102.out 1).trans rfl;have hcz46_2 : w45.cell? ⟨gb102,2,none⟩ = some (.int .i64 a1_2):=(kC BK102.out 2).trans rfl;have hcz46_3 : w45.cell? ⟨gb102,3,none⟩ = some (.int .i64 a1_3):=(kC BK102.out 3).trans rfl;have hfz46_0:=blk_frozen BK102.out 0;have hfz46_1:=blk_frozen BK102.out 1;have hfz46_2:=blk_frozen BK102.out 2;have hfz46_3:=blk_frozen BK102.out 3))
      go_ret
      exact ⟨by first|rfl|(simp [errW_none,errW_some] <;> rfl)|(simp [*,errW_none,errW_some] <;> rfl),by repeat (first|(with_reducible first|exact HB.out|apply bA|apply bN|apply bD|refine bS ?_ GE102.out)|exact HB.out)⟩
    ·replace c32:=Bool.eq_false_iff.mpr c32
     subst c32
     have H1 : (some 2) = some r:=by rw [if_neg (show ¬ (false = true) by decide)] at H;exact H
     clear H
     have H:=H1
     clear H1
     obtain rfl:=Option.some.inj H
     go_enter Try.func49,Try.ntmps49
     go_wp2_with (first|((with_reducible refine gate_dst (N:=3) rfl ?_);refine box_event ?hg (N:=3) ?hd (cs:=#[.int .i64 a1_0,.int .i64 a1_1,.int .i64 a1_2,.int .i64 a1_3]) (t:=36) ?hr ?_;(case hd => rfl);(case hg => rfl);(case hr => first|(go_simp;done)|(go_simp;rfl));intro gb102 hg w47 hbox hb;have n0_:=Ak (below_step (by repeat (first|(with_reducible first|exact HB.out|apply bA|apply bN|apply bD)|exact HB.out)) hb);have n1_:=Ak (hbox);have n2_:=Ak ((by rw [hg];exact (below_size (by repeat (first|(with_reducible first|exact HB.out|apply bA|apply bN|apply bD)|exact HB.out))) : w.heap.size ≤ gb102));have n3_:=Ak ((by rw [hg];exact (below_size (by repeat (first|(with_reducible first|exact HB.out|apply bA|apply bN|apply bD)|exact HB.out))) : w.heap.size ≤ gb102));clear HB;have HB:=n0_;have BK102:=n1_;have GW102:=n2_;have GE102:=n3_;clear n0_ n1_ n2_ n3_;clear hb hbox hg;have hcz48_0 : w47.cell? ⟨gb102,0,none⟩ = some (.int .i64 a1_0):=(kC BK102.out 0).trans rfl;have hcz48_1 : w47.cell? ⟨gb102,1,none⟩ = some (.int .i64 a1_1):=(kC BK102.out 1).trans rfl;have hcz48_2 : w47.cell? ⟨gb102,2,none⟩ = some (.int .i64 a1_2):=(kC BK102.out 2).trans rfl;have hcz48_3 : w47.cell? ⟨gb102,3,none⟩ = some (.int .i64 a1_3):=(kC BK102.out 3).trans rfl;have hfz48_0:=blk_frozen BK102.out 0;have hfz48_1:=blk_frozen BK102.out 1;have hfz48_2:=blk_frozen BK102.out 2;have hfz48_3:=blk_frozen BK102.out 3)|((with_reducible refine gate_callee (f:=53) rfl ?_);refine goesL_ (some 7) rfl rfl Try.func53 (by kernel_rfl) rfl #[.agg #[.int .i64 a1_0,.int .i64 a1_1,.int .i64 a1_2,.int .i64 a1_3]] rfl (by (try simp only [List.map_toArray,List.map_cons,List.map_nil]);first|done|rfl|(simp only [List.length_drop,List.length_take];rfl)) ?_;(with_reducible refine (key_box.calls a1_0 a1_1 a1_2 a1_3 false _ A3.out).mono ?_);rintro e w49 ⟨rfl,hb⟩;refine ⟨_,rfl,?_⟩;have n0_:=Ak (kB (g:=gb102) (o:=.cells #[.int .i64 a1_0,.int .i64 a1_1,.int .i64 a1_2,.int .i64 a1_3] 36 (0,0)) (by (with_reducible repeat (first|refine kN ?_ _|refine kD ?_|refine kA ?_ _));exact BK102.out) hb);have n1_:=Ak (below_step (by repeat (first|(with_reducible first|exact HB.out|apply bA|apply bN|apply bD|refine bS ?_ GE102.out)|exact HB.out)) hb);clear BK102;clear HB;have BK102:=n0_;have HB:=n1_;clear n0_ n1_;(try clear hb);(try clear hb2);(try clear hk);(try clear hi)))
     go_ret
     exact ⟨by first|rfl|(simp [errW_none,errW_some] <;> rfl)|(simp [*,errW_none,errW_some] <;> rfl),by repeat (first|(with_reducible first|exact HB.out|apply bA|apply bN|apply bD|refine bS ?_ GE102.out)|exact HB.out)⟩
   ·rw [if_neg c31] at H
    have c31b0 : (a0 == 3) = false:=beq_eq_false_iff_ne.mpr c31
    have c31b1 : (a0 != 3) = true:=bne_iff_ne.mpr c31
    obtain rfl:=Option.some.inj H
    go_enter Try.func49,Try.ntmps49
    go_wp2_with (first|((with_reducible refine gate_dst (N:=3) rfl ?_);refine box_event ?hg (N:=3) ?hd (cs:=#[.int .i64 a1_0,.int .i64 a1_1,.int .i64 a1_2,.int .i64 a1_3]) (t:=36) ?hr ?_;(case hd => rfl);(case hg => rfl);(case hr => first|(go_simp;done)|(go_simp;rfl));intro gb102 hg w50 hbox hb;have n0_:=Ak (below_step (by repeat (first|(with_reducible first|exact HB.out|apply bA|apply bN|apply bD)|exact HB.out)) hb);have n1_:=Ak (hbox);have n2_:=Ak ((by rw [hg];exact (below_size (by repeat (first|(with_reducible first|exact HB.out|apply bA|apply bN|apply bD)|exact HB.out))) : w.heap.size ≤ gb102));have n3_:=Ak ((by rw [hg];exact (below_size (by repeat (first|(with_reducible first|exact HB.out|apply bA|apply bN|apply bD)|exact HB.out))) : w.heap.size ≤ gb102));clear HB;have HB:=n0_;have BK102:=n1_;have GW102:=n2_;have GE102:=n3_;clear n0_ n1_ n2_ n3_;clear hb hbox hg;have hcz51_0 : w50.cell? ⟨gb102,0,none⟩ = some (.int .i64 a1_0):=(kC BK102.out 0).trans rfl;have hcz51_1 : w50.cell? ⟨gb102,1,none⟩ = some (.int .i64 a1_1):=(kC BK102.out 1).trans rfl;have hcz51_2 : w50.cell? ⟨gb102,2,none⟩ = some (.int .i64 a1_2):=(kC BK102.out 2).trans rfl;have hcz51_3 : w50.cell? ⟨gb102,3,none⟩ = some (.int .i64 a1_3):=(kC BK102.out 3).trans rfl;have hfz51_0:=blk_frozen BK102.out 0;have hfz51_1:=blk_frozen BK102.out 1;have hfz51_2:=blk_frozen BK102.out 2;have hfz51_3:=blk_frozen BK102.out 3)|((with_reducible refine gate_callee (f:=53) rfl ?_);refine goesL_ (some 7) rfl rfl Try.func53 (by kernel_rfl) rfl #[.agg #[.int .i64 a1_0,.int .i64 a1_1,.int .i64 a1_2,.int .i64 a1_3]] rfl (by (try simp only [List.map_toArray,List.map_cons,List.map_nil]);first|done|rfl|(simp only [List.length_drop,List.length_take];rfl)) ?_;(with_reducible refine (key_box.calls a1_0 a1_1 a1_2 a1_3 t103 _ A3.out).mono ?_);rintro e w52 ⟨rfl,hb⟩;refine ⟨_,rfl,?_⟩;have n0_:=Ak (kB (g:=gb102) (o:=.cells #[.int .i64 a1_0,.int .i64 a1_1,.int .i64 a1_2,.int .i64 a1_3] 36 (0,0)) (by (with_reducible repeat (first|refine kN ?_ _|refine kD ?_|refine kA ?_ _));exact BK102.out) hb);have n1_:=Ak (below_step (by repeat (first|(with_reducible first|exact HB.out|apply bA|apply bN|apply bD|refine bS ?_ GE102.out)|exact HB.out)) hb);clear BK102;clear HB;have BK102:=n0_;have HB:=n1_;clear n0_ n1_;(try clear hb);(try clear hb2);(try clear hk);(try clear hi)))
    go_ret
    exact ⟨by first|rfl|(simp [errW_none,errW_some] <;> rfl)|(simp [*,errW_none,errW_some] <;> rfl),by repeat (first|(with_reducible first|exact HB.out|apply bA|apply bN|apply bD|refine bS ?_ GE102.out)|exact HB.out)⟩
def key_Meets.f (a0_0 : Int) (a0_1 : Int) (a0_2 : Int) (a0_3 : Int) (a1_0 : Int) (a1_1 : Int) (a1_2 : Int) (a1_3 : Int) : Option (Bool) := (key_box.f a0_0 a0_1 a0_2 a0_3).bind fun t106 => (if t106 = true then ((key_box.f a1_0 a1_1 a1_2 a1_3).bind fun t107 => (if t107 = true then (if a0_0 ≤ a1_1 then (if a1_0 ≤ a0_1 then (if a0_2 ≤ a1_3 then (some (decide (a1_2 ≤ a0_3))) else (some false)) else (some false)) else (some false)) else (some false))) else (some false))
set_option maxHeartbeats 8000000 in
set_option maxRecDepth 100000 in
theorem key_Meets.calls (a0_0 : Int) (a0_1 : Int) (a0_2 : Int) (a0_3 : Int) (a1_0 : Int) (a1_1 : Int) (a1_2 : Int) (a1_3 : Int) (r : Bool) (w : World) (h : key_Meets.f a0_0 a0_1 a0_2 a0_3 a1_0 a1_1 a1_2 a1_3 = some r) :
  Calls Try.prog 29 #[.agg #[.int .i64 a0_0,.int .i64 a0_1,.int .i64 a0_2,.int .i64 a0_3],.agg #[.int .i64 a1_0,.int .i64 a1_1,.int .i64 a1_2,.int .i64 a1_3]] w fun e w' => e = .returned (.bool r)∧Below w.heap.size w w':=by
 have hu36:=Try.underlying36
 have HB:=Ak (Below.refl w.heap.size w)
 have H : ((key_box.f a0_0 a0_1 a0_2 a0_3).bind fun t106 => (if t106 = true then ((key_box.f a1_0 a1_1 a1_2 a1_3).bind fun t107 => (if t107 = true then (if a0_0 ≤ a1_1 then (if a1_0 ≤ a0_1 then (if a0_2 ≤ a1_3 then (some (decide (a1_2 ≤ a0_3))) else (some false)) else (some false)) else (some false)) else (some false))) else (some false))) = some r:=h
 clear h
 replace H:=Option.bind_eq_some_iff.mp H
 obtain ⟨t106,A30,H⟩:=H
 replace H : (if t106 = true then ((key_box.f a1_0 a1_1 a1_2 a1_3).bind fun t107 => (if t107 = true then (if a0_0 ≤ a1_1 then (if a1_0 ≤ a0_1 then (if a0_2 ≤ a1_3 then (some (decide (a1_2 ≤ a0_3))) else (some false)) else (some false)) else (some false)) else (some false))) else (some false)) = some r:=H
 have A3:=Ak A30
 clear A30
 by_cases c4 : t106 = true
 ·subst c4
  have H1 : ((key_box.f a1_0 a1_1 a1_2 a1_3).bind fun t107 => (if t107 = true then (if a0_0 ≤ a1_1 then (if a1_0 ≤ a0_1 then (if a0_2 ≤ a1_3 then (some (decide (a1_2 ≤ a0_3))) else (some false)) else (some false)) else (some false)) else (some false))) = some r:=by rw [if_pos rfl] at H;exact H
  clear H
  have H:=H1
  clear H1
  replace H:=Option.bind_eq_some_iff.mp H
  obtain ⟨t107,A50,H⟩:=H
  replace H : (if t107 = true then (if a0_0 ≤ a1_1 then (if a1_0 ≤ a0_1 then (if a0_2 ≤ a1_3 then (some (decide (a1_2 ≤ a0_3))) else (some false)) else (some false)) else (some false)) else (some false)) = some r:=H
  have A5:=Ak A50
  clear A50
  by_cases c6 : t107 = true
  ·subst c6
   have H1 : (if a0_0 ≤ a1_1 then (if a1_0 ≤ a0_1 then (if a0_2 ≤ a1_3 then (some (decide (a1_2 ≤ a0_3))) else (some false)) else (some false)) else (some false)) = some r:=by rw [if_pos rfl] at H;exact H
   clear H
   have H:=H1
   clear H1
   by_cases c7 : a0_0 ≤ a1_1
   ·rw [if_pos c7] at H
    have c7b0 : decide (a0_0 ≤ a1_1) = true:=decide_eq_true c7
    clear c7
    by_cases c8 : a1_0 ≤ a0_1
    ·rw [if_pos c8] at H
     have c8b0 : decide (a1_0 ≤ a0_1) = true:=decide_eq_true c8
     clear c8
     by_cases c9 : a0_2 ≤ a1_3
     ·rw [if_pos c9] at H
      have c9b0 : decide (a0_2 ≤ a1_3) = true:=decide_eq_true c9
      clear c9
      obtain rfl:=Option.some.inj H
      go_enter Try.func29,Try.ntmps29
      go_wp2_with (first|((with_reducible refine gate_dst (N:=2) rfl ?_);refine box_event ?hg (N:=2) ?hd (cs:=#[.int .i64 a0_0,.int .i64 a0_1,.int .i64 a0_2,.int .i64 a0_3]) (t:=36) ?hr ?_;(case hd => rfl);(case hg => rfl);(case hr => first|(go_simp;done)|(go_simp;rfl));intro gb104 hg w10 hbox hb;have n0_:=Ak (below_step (by repeat (first|(with_reducible first|exact HB.out|apply bA|apply bN|apply bD)|exact HB.out)) hb);have n1_:=Ak (hbox);have n2_:=Ak ((by rw [hg];exact (below_size (by repeat (first|(with_reducible first|exact HB.out|apply bA|apply bN|apply bD)|exact HB.out))) : w.heap.size ≤ gb104));have n3_:=Ak ((by rw [hg];exact (below_size (by repeat (first|(with_reducible first|exact HB.out|apply bA|apply bN|apply bD)|exact HB.out))) : w.heap.size ≤ gb104));clear HB;have HB:=n0_;have BK104:=n1_;have GW104:=n2_;have GE104:=n3_;clear n0_ n1_ n2_ n3_;clear hb hbox hg)|((with_reducible refine gate_dst (N:=3) rfl ?_);refine box_event ?hg (N:=3) ?hd (cs:=#[.int .i64 a1_0,.int .i64 a1_1,.int .i64 a1_2,.int .i64 a1_3]) (t:=36) ?hr ?_;(case hd => rfl);(case hg => rfl);(case hr => first|(go_simp;done)|(go_simp;rfl));intro gb105 hg w11 hbox hb;have n0_:=Ak (kB (g:=gb104) (o:=.cells #[.int .i64 a0_0,.int .i64 a0_1,.int .i64 a0_2,.int .i64 a0_3] 36 (0,0)) (by (with_reducible repeat (first|refine kN ?_ _|refine kD ?_|refine kA ?_ _));exact BK104.out) hb);have n1_:=Ak (below_step (by repeat (first|(with_reducible first|exact HB.out|apply bA|apply bN|apply bD|refine bS ?_ GE104.out)|exact HB.out)) hb);have n2_:=Ak (hbox);have n3_:=Ak ((by rw [hg];exact (below_size (by repeat (first|(with_reducible first|exact HB.out|apply bA|apply bN|apply bD|refine bS ?_ GE104.out)|exact HB.out))) : w.heap.size ≤ gb105));have n4_:=Ak ((by rw [hg];exact (below_size (by repeat (first|(with_reducible first|exact HB.out|apply bA|apply bN|apply bD|refine bS ?_ GE104.out)|exact HB.out))) : w.heap.size ≤ gb105));have n5_:=Ak ((by rw [hg];exact Nat.ne_of_lt (blk_lt (g:=gb104) (o:=.cells #[.int .i64 a0_0,.int .i64 a0_1,.int .i64 a0_2,.int .i64 a0_3] 36 (0,0)) (by (with_reducible repeat (first|refine kN ?_ _|refine kD ?_|refine kA ?_ _));exact BK104.out)) : gb104 ≠ gb105));have n6_:=Ak ((by rw [hg];exact Nat.ne_of_gt (blk_lt (g:=gb104) (o:=.cells #[.int .i64 a0_0,.int .i64 a0_1,.int .i64 a0_2,.int .i64 a0_3] 36 (0,0)) (by (with_reducible repeat (first|refine kN ?_ _|refine kD ?_|refine kA ?_ _));exact BK104.out)) : gb105 ≠ gb104));clear BK104;clear HB;have BK104:=n0_;have HB:=n1_;have BK105:=n2_;have GW105:=n3_;have GE105:=n4_;have NB104_105:=n5_;have NB105_104:=n6_;clear n0_ n1_ n2_ n3_ n4_ n5_ n6_;clear hb hbox hg;have hnb12:=NB104_105.out;have hnc12:=NB105_104.out;have hcz13_0 : w11.cell? ⟨gb104,0,none⟩ = some (.int .i64 a0_0):=(kC BK104.out 0).trans rfl;have hcz13_1 : w11.cell? ⟨gb104,1,none⟩ = some (.int .i64 a0_1):=(kC BK104.out 1).trans rfl;have hcz13_2 : w11.cell? ⟨gb104,2,none⟩ = some (.int .i64 a0_2):=(kC BK104.out 2).trans rfl;have hcz13_3 : w11.cell? ⟨gb104,3,none⟩ = some (.int .i64 a0_3):=(kC BK104.out 3).trans rfl;have hfz13_0:=blk_frozen BK104.out 0;have hfz13_1:=blk_frozen BK104.out 1;have hfz13_2:=blk_frozen BK104.out 2;have hfz13_3:=blk_frozen BK104.out 3)|((with_reducible refine gate_callee (f:=53) rfl ?_);refine goesL_ (some 6) rfl rfl Try.func53 (by kernel_rfl) rfl #[.agg #[.int .i64 a0_0,.int .i64 a0_1,.int .i64 a0_2,.int .i64 a0_3]] rfl (by (try simp only [List.map_toArray,List.map_cons,List.map_nil]);first|done|rfl|(simp only [List.length_drop,List.length_take];rfl)) ?_;(with_reducible refine (key_box.calls a0_0 a0_1 a0_2 a0_3 true _ A3.out).mono ?_);rintro e w14 ⟨rfl,hb⟩;refine ⟨_,rfl,?_⟩;have n0_:=Ak (kB (g:=gb104) (o:=.cells #[.int .i64 a0_0,.int .i64 a0_1,.int .i64 a0_2,.int .i64 a0_3] 36 (0,0)) (by (with_reducible repeat (first|refine kN ?_ _|refine kD ?_|refine kA ?_ _));exact BK104.out) hb);have n1_:=Ak (kB (g:=gb105) (o:=.cells #[.int .i64 a1_0,.int .i64 a1_1,.int .i64 a1_2,.int .i64 a1_3] 36 (0,0)) (by (with_reducible repeat (first|refine kN ?_ _|refine kD ?_|refine kA ?_ _));exact BK105.out) hb);have n2_:=Ak (below_step (by repeat (first|(with_reducible first|exact HB.out|apply bA|apply bN|apply bD|refine bS ?_ GE104.out|refine bS ?_ GE105.out)|exact HB.out)) hb);clear BK104;clear BK105;clear HB;have BK104:=n0_;have BK105:=n1_;have HB:=n2_;clear n0_ n1_ n2_;(try clear hb);(try clear hb2);(try clear hk);(try clear hi);have hcz15_0 : w14.cell? ⟨gb105,0,none⟩ = some (.int .i64 a1_0):=(kC BK105.out 0).trans rfl;have hcz15_1 : w14.cell? ⟨gb105,1,none⟩ = some (.int .i64 a1_1):=(kC BK105.out 1).trans rfl;have hcz15_2 : w14.cell? ⟨gb105,2,none⟩ = some (.int .i64 a1_2):=(kC BK105.out 2).trans rfl;have hcz15_3 : w14.cell? ⟨gb105,3,none⟩ = some (.int .i64 a1_3):=(kC BK105.out 3).trans rfl;have hfz15_0:=blk_frozen BK105.out 0;have hfz15_1:=blk_frozen BK105.out 1;have hfz15_2:=blk_frozen BK105.out 2;have hfz15_3:=blk_frozen BK105.out 3)|(go_at_call 53;(with_reducible refine (key_box.calls a1_0 a1_1 a1_2 a1_3 true _ A5.out).mono ?_);rintro e w16 ⟨rfl,hb⟩;have n0_:=Ak (kB (g:=gb104) (o:=.cells #[.int .i64 a0_0,.int .i64 a0_1,.int .i64 a0_2,.int .i64 a0_3] 36 (0,0)) (by (with_reducible repeat (first|refine kN ?_ _|refine kD ?_|refine kA ?_ _));exact BK104.out) hb);have n1_:=Ak (kB (g:=gb105) (o:=.cells #[.int .i64 a1_0,.int .i64 a1_1,.int .i64 a1_2,.int .i64 a1_3] 36 (0,0)) (by (with_reducible repeat (first|refine kN ?_ _|refine kD ?_|refine kA ?_ _));exact BK105.out) hb);have n2_:=Ak (below_step (by repeat (first|(with_reducible first|exact HB.out|apply bA|apply bN|apply bD|refine bS ?_ GE104.out|refine bS ?_ GE105.out)|exact HB.out)) hb);clear BK104;clear BK105;clear HB;have BK104:=n0_;have BK105:=n1_;have HB:=n2_;clear n0_ n1_ n2_;(try clear hb);(try clear hb2);(try clear hk);(try clear hi);have hcz17_0 : w16.cell? ⟨gb104,0,none⟩ = some (.int .i64 a0_0):=(kC BK104.out 0).trans rfl;have hcz17_1 : w16.cell? ⟨gb104,1,none⟩ = some (.int .i64 a0_1):=(kC BK104.out 1).trans rfl;have hcz17_2 : w16.cell? ⟨gb104,2,none⟩ = some (.int .i64 a0_2):=(kC BK104.out 2).trans rfl;have hcz17_3 : w16.cell? ⟨gb104,3,none⟩ = some (.int .i64 a0_3):=(kC BK104.out 3).trans rfl;have hfz17_0:=blk_frozen BK104.out 0;have hfz17_1:=blk_frozen BK104.out 1;have hfz17_2:=blk_frozen BK104.out 2;have hfz17_3:=blk_frozen BK104.out 3;have hcz18_0 : w16.cell? ⟨gb105,0,none⟩ = some (.int .i64 a1_0):=(kC BK105.out 0).trans rfl;have hcz18_1 : w16.cell? ⟨gb105,1,none⟩ = some (.int .i64 a1_1):=(kC BK105.out 1).trans rfl;have hcz18_2 : w16.cell? ⟨gb105,2,none⟩ = some (.int .i64 a1_2):=(kC BK105.out 2).trans rfl;have hcz18_3 : w16.cell? ⟨gb105,3,none⟩ = some (.int .i64 a1_3):=(kC BK105.out 3).trans rfl;have hfz18_0:=blk_frozen BK105.out 0;have hfz18_1:=blk_frozen BK105.out 1;have hfz18_2:=blk_frozen BK105.out 2;have hfz18_3:=blk_frozen BK105.out 3))
      go_ret
      exact ⟨by first|rfl|(simp [errW_none,errW_some] <;> rfl)|(simp [*,errW_none,errW_some] <;> rfl),by repeat (first|(with_reducible first|exact HB.out|apply bA|apply bN|apply bD|refine bS ?_ GE104.out|refine bS ?_ GE105.out)|exact HB.out)⟩
     ·rw [if_neg c9] at H
      have c9b0 : decide (a0_2 ≤ a1_3) = false:=decide_eq_false c9
      clear c9
      obtain rfl:=Option.some.inj H
      go_enter Try.func29,Try.ntmps29
      go_wp2_with (first|((with_reducible refine gate_dst (N:=2) rfl ?_);refine box_event ?hg (N:=2) ?hd (cs:=#[.int .i64 a0_0,.int .i64 a0_1,.int .i64 a0_2,.int .i64 a0_3]) (t:=36) ?hr ?_;(case hd => rfl);(case hg => rfl);(case hr => first|(go_simp;done)|(go_simp;rfl));intro gb104 hg w19 hbox hb;have n0_:=Ak (below_step (by repeat (first|(with_reducible first|exact HB.out|apply bA|apply bN|apply bD)|exact HB.out)) hb);have n1_:=Ak (hbox);have n2_:=Ak ((by rw [hg];exact (below_size (by repeat (first|(with_reducible first|exact HB.out|apply bA|apply bN|apply bD)|exact HB.out))) : w.heap.size ≤ gb104));have n3_:=Ak ((by rw [hg];exact (below_size (by repeat (first|(with_reducible first|exact HB.out|apply bA|apply bN|apply bD)|exact HB.out))) : w.heap.size ≤ gb104));clear HB;have HB:=n0_;have BK104:=n1_;have GW104:=n2_;have GE104:=n3_;clear n0_ n1_ n2_ n3_;clear hb hbox hg)|((with_reducible refine gate_dst (N:=3) rfl ?_);refine box_event ?hg (N:=3) ?hd (cs:=#[.int .i64 a1_0,.int .i64 a1_1,.int .i64 a1_2,.int .i64 a1_3]) (t:=36) ?hr ?_;(case hd => rfl);(case hg => rfl);(case hr => first|(go_simp;done)|(go_simp;rfl));intro gb105 hg w20 hbox hb;have n0_:=Ak (kB (g:=gb104) (o:=.cells #[.int .i64 a0_0,.int .i64 a0_1,.int .i64 a0_2,.int .i64 a0_3] 36 (0,0)) (by (with_reducible repeat (first|refine kN ?_ _|refine kD ?_|refine kA ?_ _));exact BK104.out) hb);have n1_:=Ak (below_step (by repeat (first|(with_reducible first|exact HB.out|apply bA|apply bN|apply bD|refine bS ?_ GE104.out)|exact HB.out)) hb);have n2_:=Ak (hbox);have n3_:=Ak ((by rw [hg];exact (below_size (by repeat (first|(with_reducible first|exact HB.out|apply bA|apply bN|apply bD|refine bS ?_ GE104.out)|exact HB.out))) : w.heap.size ≤ gb105));have n4_:=Ak ((by rw [hg];exact (below_size (by repeat (first|(with_reducible first|exact HB.out|apply bA|apply bN|apply bD|refine bS ?_ GE104.out)|exact HB.out))) : w.heap.size ≤ gb105));have n5_:=Ak ((by rw [hg];exact Nat.ne_of_lt (blk_lt (g:=gb104) (o:=.cells #[.int .i64 a0_0,.int .i64 a0_1,.int .i64 a0_2,.int .i64 a0_3] 36 (0,0)) (by (with_reducible repeat (first|refine kN ?_ _|refine kD ?_|refine kA ?_ _));exact BK104.out)) : gb104 ≠ gb105));have n6_:=Ak ((by rw [hg];exact Nat.ne_of_gt (blk_lt (g:=gb104) (o:=.cells #[.int .i64 a0_0,.int .i64 a0_1,.int .i64 a0_2,.int .i64 a0_3] 36 (0,0)) (by (with_reducible repeat (first|refine kN ?_ _|refine kD ?_|refine kA ?_ _));exact BK104.out)) : gb105 ≠ gb104));clear BK104;clear HB;have BK104:=n0_;have HB:=n1_;have BK105:=n2_;have GW105:=n3_;have GE105:=n4_;have NB104_105:=n5_;have NB105_104:=n6_;clear n0_ n1_ n2_ n3_ n4_ n5_ n6_;clear hb hbox hg;have hnb21:=NB104_105.out;have hnc21:=NB105_104.out;have hcz22_0 : w20.cell? ⟨gb104,0,none⟩ = some (.int .i64 a0_0):=(kC BK104.out 0).trans rfl;have hcz22_1 : w20.cell? ⟨gb104,1,none⟩ = some (.int .i64 a0_1):=(kC BK104.out 1).trans rfl;have hcz22_2 : w20.cell? ⟨gb104,2,none⟩ = some (.int .i64 a0_2):=(kC BK104.out 2).trans rfl;have hcz22_3 : w20.cell? ⟨gb104,3,none⟩ = some (.int .i64 a0_3):=(kC BK104.out 3).trans rfl;have hfz22_0:=blk_frozen BK104.out 0;have hfz22_1:=blk_frozen BK104.out 1;have hfz22_2:=blk_frozen BK104.out 2;have hfz22_3:=blk_frozen BK104.out 3)|((with_reducible refine gate_callee (f:=53) rfl ?_);refine goesL_ (some 6) rfl rfl Try.func53 (by kernel_rfl) rfl #[.agg #[.int .i64 a0_0,.int .i64 a0_1,.int .i64 a0_2,.int .i64 a0_3]] rfl (by (try simp only [List.map_toArray,List.map_cons,List.map_nil]);first|done|rfl|(simp only [List.length_drop,List.length_take];rfl)) ?_;(with_reducible refine (key_box.calls a0_0 a0_1 a0_2 a0_3 true _ A3.out).mono ?_);rintro e w23 ⟨rfl,hb⟩;refine ⟨_,rfl,?_⟩;have n0_:=Ak (kB (g:=gb104) (o:=.cells #[.int .i64 a0_0,.int .i64 a0_1,.int .i64 a0_2,.int .i64 a0_3] 36 (0,0)) (by (with_reducible repeat (first|refine kN ?_ _|refine kD ?_|refine kA ?_ _));exact BK104.out) hb);have n1_:=Ak (kB (g:=gb105) (o:=.cells #[.int .i64 a1_0,.int .i64 a1_1,.int .i64 a1_2,.int .i64 a1_3] 36 (0,0)) (by (with_reducible repeat (first|refine kN ?_ _|refine kD ?_|refine kA ?_ _));exact BK105.out) hb);have n2_:=Ak (below_step (by repeat (first|(with_reducible first|exact HB.out|apply bA|apply bN|apply bD|refine bS ?_ GE104.out|refine bS ?_ GE105.out)|exact HB.out)) hb);clear BK104;clear BK105;clear HB;have BK104:=n0_;have BK105:=n1_;have HB:=n2_;clear n0_ n1_ n2_;(try clear hb);(try clear hb2);(try clear hk);(try clear hi);have hcz24_0 : w23.cell? ⟨gb105,0,none⟩ = some (.int .i64 a1_0):=(kC BK105.out 0).trans rfl;have hcz24_1 : w23.cell? ⟨gb105,1,none⟩ = some (.int .i64 a1_1):=(kC BK105.out 1).trans rfl;have hcz24_2 : w23.cell? ⟨gb105,2,none⟩ = some (.int .i64 a1_2):=(kC BK105.out 2).trans rfl;have hcz24_3 : w23.cell? ⟨gb105,3,none⟩ = some (.int .i64 a1_3):=(kC BK105.out 3).trans rfl;have hfz24_0:=blk_frozen BK105.out 0;have hfz24_1:=blk_frozen BK105.out 1;have hfz24_2:=blk_frozen BK105.out 2;have hfz24_3:=blk_frozen BK105.out 3)|(go_at_call 53;(with_reducible refine (key_box.calls a1_0 a1_1 a1_2 a1_3 true _ A5.out).mono ?_);rintro e w25 ⟨rfl,hb⟩;have n0_:=Ak (kB (g:=gb104) (o:=.cells #[.int .i64 a0_0,.int .i64 a0_1,.int .i64 a0_2,.int .i64 a0_3] 36 (0,0)) (by (with_reducible repeat (first|refine kN ?_ _|refine kD ?_|refine kA ?_ _));exact BK104.out) hb);have n1_:=Ak (kB (g:=gb105) (o:=.cells #[.int .i64 a1_0,.int .i64 a1_1,.int .i64 a1_2,.int .i64 a1_3] 36 (0,0)) (by (with_reducible repeat (first|refine kN ?_ _|refine kD ?_|refine kA ?_ _));exact BK105.out) hb);have n2_:=Ak (below_step (by repeat (first|(with_reducible first|exact HB.out|apply bA|apply bN|apply bD|refine bS ?_ GE104.out|refine bS ?_ GE105.out)|exact HB.out)) hb);clear BK104;clear BK105;clear HB;have BK104:=n0_;have BK105:=n1_;have HB:=n2_;clear n0_ n1_ n2_;(try clear hb);(try clear hb2);(try clear hk);(try clear hi);have hcz26_0 : w25.cell? ⟨gb104,0,none⟩ = some (.int .i64 a0_0):=(kC BK104.out 0).trans rfl;have hcz26_1 : w25.cell? ⟨gb104,1,none⟩ = some (.int .i64 a0_1):=(kC BK104.out 1).trans rfl;have hcz26_2 : w25.cell? ⟨gb104,2,none⟩ = some (.int .i64 a0_2):=(kC BK104.out 2).trans rfl;have hcz26_3 : w25.cell? ⟨gb104,3,none⟩ = some (.int .i64 a0_3):=(kC BK104.out 3).trans rfl;have hfz26_0:=blk_frozen BK104.out 0;have hfz26_1:=blk_frozen BK104.out 1;have hfz26_2:=blk_frozen BK104.out 2;have hfz26_3:=blk_frozen BK104.out 3;have hcz27_0 : w25.cell? ⟨gb105,0,none⟩ = some (.int .i64 a1_0):=(kC BK105.out 0).trans rfl;have hcz27_1 : w25.cell? ⟨gb105,1,none⟩ = some (.int .i64 a1_1):=(kC BK105.out 1).trans rfl;have hcz27_2 : w25.cell? ⟨gb105,2,none⟩ = some (.int .i64 a1_2):=(kC BK105.out 2).trans rfl;have hcz27_3 : w25.cell? ⟨gb105,3,none⟩ = some (.int .i64 a1_3):=(kC BK105.out 3).trans rfl;have hfz27_0:=blk_frozen BK105.out 0;have hfz27_1:=blk_frozen BK105.out 1;have hfz27_2:=blk_frozen BK105.out 2;have hfz27_3:=blk_frozen BK105.out 3))
      go_ret
      exact ⟨by first|rfl|(simp [errW_none,errW_some] <;> rfl)|(simp [*,errW_none,errW_some] <;> rfl),by repeat (first|(with_reducible first|exact HB.out|apply bA|apply bN|apply bD|refine bS ?_ GE104.out|refine bS ?_ GE105.out)|exact HB.out)⟩
    ·rw [if_neg c8] at H
     have c8b0 : decide (a1_0 ≤ a0_1) = false:=decide_eq_false c8
     clear c8
     obtain rfl:=Option.some.inj H
     go_enter Try.func29,Try.ntmps29
     go_wp2_with (first|((with_reducible refine gate_dst (N:=2) rfl ?_);refine box_event ?hg (N:=2) ?hd (cs:=#[.int .i64 a0_0,.int .i64 a0_1,.int .i64 a0_2,.int .i64 a0_3]) (t:=36) ?hr ?_;(case hd => rfl);(case hg => rfl);(case hr => first|(go_simp;done)|(go_simp;rfl));intro gb104 hg w28 hbox hb;have n0_:=Ak (below_step (by repeat (first|(with_reducible first|exact HB.out|apply bA|apply bN|apply bD)|exact HB.out)) hb);have n1_:=Ak (hbox);have n2_:=Ak ((by rw [hg];exact (below_size (by repeat (first|(with_reducible first|exact HB.out|apply bA|apply bN|apply bD)|exact HB.out))) : w.heap.size ≤ gb104));have n3_:=Ak ((by rw [hg];exact (below_size (by repeat (first|(with_reducible first|exact HB.out|apply bA|apply bN|apply bD)|exact HB.out))) : w.heap.size ≤ gb104));clear HB;have HB:=n0_;have BK104:=n1_;have GW104:=n2_;have GE104:=n3_;clear n0_ n1_ n2_ n3_;clear hb hbox hg)|((with_reducible refine gate_dst (N:=3) rfl ?_);refine box_event ?hg (N:=3) ?hd (cs:=#[.int .i64 a1_0,.int .i64 a1_1,.int .i64 a1_2,.int .i64 a1_3]) (t:=36) ?hr ?_;(case hd => rfl);(case hg => rfl);(case hr => first|(go_simp;done)|(go_simp;rfl));intro gb105 hg w29 hbox hb;have n0_:=Ak (kB (g:=gb104) (o:=.cells #[.int .i64 a0_0,.int .i64 a0_1,.int .i64 a0_2,.int .i64 a0_3] 36 (0,0)) (by (with_reducible repeat (first|refine kN ?_ _|refine kD ?_|refine kA ?_ _));exact BK104.out) hb);have n1_:=Ak (below_step (by repeat (first|(with_reducible first|exact HB.out|apply bA|apply bN|apply bD|refine bS ?_ GE104.out)|exact HB.out)) hb);have n2_:=Ak (hbox);have n3_:=Ak ((by rw [hg];exact (below_size (by repeat (first|(with_reducible first|exact HB.out|apply bA|apply bN|apply bD|refine bS ?_ GE104.out)|exact HB.out))) : w.heap.size ≤ gb105));have n4_:=Ak ((by rw [hg];exact (below_size (by repeat (first|(with_reducible first|exact HB.out|apply bA|apply bN|apply bD|refine bS ?_ GE104.out)|exact HB.out))) : w.heap.size ≤ gb105));have n5_:=Ak ((by rw [hg];exact Nat.ne_of_lt (blk_lt (g:=gb104) (o:=.cells #[.int .i64 a0_0,.int .i64 a0_1,.int .i64 a0_2,.int .i64 a0_3] 36 (0,0)) (by (with_reducible repeat (first|refine kN ?_ _|refine kD ?_|refine kA ?_ _));exact BK104.out)) : gb104 ≠ gb105));have n6_:=Ak ((by rw [hg];exact Nat.ne_of_gt (blk_lt (g:=gb104) (o:=.cells #[.int .i64 a0_0,.int .i64 a0_1,.int .i64 a0_2,.int .i64 a0_3] 36 (0,0)) (by (with_reducible repeat (first|refine kN ?_ _|refine kD ?_|refine kA ?_ _));exact BK104.out)) : gb105 ≠ gb104));clear BK104;clear HB;have BK104:=n0_;have HB:=n1_;have BK105:=n2_;have GW105:=n3_;have GE105:=n4_;have NB104_105:=n5_;have NB105_104:=n6_;clear n0_ n1_ n2_ n3_ n4_ n5_ n6_;clear hb hbox hg;have hnb30:=NB104_105.out;have hnc30:=NB105_104.out;have hcz31_0 : w29.cell? ⟨gb104,0,none⟩ = some (.int .i64 a0_0):=(kC BK104.out 0).trans rfl;have hcz31_1 : w29.cell? ⟨gb104,1,none⟩ = some (.int .i64 a0_1):=(kC BK104.out 1).trans rfl;have hcz31_2 : w29.cell? ⟨gb104,2,none⟩ = some (.int .i64 a0_2):=(kC BK104.out 2).trans rfl;have hcz31_3 : w29.cell? ⟨gb104,3,none⟩ = some (.int .i64 a0_3):=(kC BK104.out 3).trans rfl;have hfz31_0:=blk_frozen BK104.out 0;have hfz31_1:=blk_frozen BK104.out 1;have hfz31_2:=blk_frozen BK104.out 2;have hfz31_3:=blk_frozen BK104.out 3)|((with_reducible refine gate_callee (f:=53) rfl ?_);refine goesL_ (some 6) rfl rfl Try.func53 (by kernel_rfl) rfl #[.agg #[.int .i64 a0_0,.int .i64 a0_1,.int .i64 a0_2,.int .i64 a0_3]] rfl (by (try simp only [List.map_toArray,List.map_cons,List.map_nil]);first|done|rfl|(simp only [List.length_drop,List.length_take];rfl)) ?_;(with_reducible refine (key_box.calls a0_0 a0_1 a0_2 a0_3 true _ A3.out).mono ?_);rintro e w32 ⟨rfl,hb⟩;refine ⟨_,rfl,?_⟩;have n0_:=Ak (kB (g:=gb104) (o:=.cells #[.int .i64 a0_0,.int .i64 a0_1,.int .i64 a0_2,.int .i64 a0_3] 36 (0,0)) (by (with_reducible repeat (first|refine kN ?_ _|refine kD ?_|refine kA ?_ _));exact BK104.out) hb);have n1_:=Ak (kB (g:=gb105) (o:=.cells #[.int .i64 a1_0,.int .i64 a1_1,.int .i64 a1_2,.int .i64 a1_3] 36 (0,0)) (by (with_reducible repeat (first|refine kN ?_ _|refine kD ?_|refine kA ?_ _));exact BK105.out) hb);have n2_:=Ak (below_step (by repeat (first|(with_reducible first|exact HB.out|apply bA|apply bN|apply bD|refine bS ?_ GE104.out|refine bS ?_ GE105.out)|exact HB.out)) hb);clear BK104;clear BK105;clear HB;have BK104:=n0_;have BK105:=n1_;have HB:=n2_;clear n0_ n1_ n2_;(try clear hb);(try clear hb2);(try clear hk);(try clear hi);have hcz33_0 : w32.cell? ⟨gb105,0,none⟩ = some (.int .i64 a1_0):=(kC BK105.out 0).trans rfl;have hcz33_1 : w32.cell? ⟨gb105,1,none⟩ = some (.int .i64 a1_1):=(kC BK105.out 1).trans rfl;have hcz33_2 : w32.cell? ⟨gb105,2,none⟩ = some (.int .i64 a1_2):=(kC BK105.out 2).trans rfl;have hcz33_3 : w32.cell? ⟨gb105,3,none⟩ = some (.int .i64 a1_3):=(kC BK105.out 3).trans rfl;have hfz33_0:=blk_frozen BK105.out 0;have hfz33_1:=blk_frozen BK105.out 1;have hfz33_2:=blk_frozen BK105.out 2;have hfz33_3:=blk_frozen BK105.out 3)|(go_at_call 53;(with_reducible refine (key_box.calls a1_0 a1_1 a1_2 a1_3 true _ A5.out).mono ?_);rintro e w34 ⟨rfl,hb⟩;have n0_:=Ak (kB (g:=gb104) (o:=.cells #[.int .i64 a0_0,.int .i64 a0_1,.int .i64 a0_2,.int .i64 a0_3] 36 (0,0)) (by (with_reducible repeat (first|refine kN ?_ _|refine kD ?_|refine kA ?_ _));exact BK104.out) hb);have n1_:=Ak (kB (g:=gb105) (o:=.cells #[.int .i64 a1_0,.int .i64 a1_1,.int .i64 a1_2,.int .i64 a1_3] 36 (0,0)) (by (with_reducible repeat (first|refine kN ?_ _|refine kD ?_|refine kA ?_ _));exact BK105.out) hb);have n2_:=Ak (below_step (by repeat (first|(with_reducible first|exact HB.out|apply bA|apply bN|apply bD|refine bS ?_ GE104.out|refine bS ?_ GE105.out)|exact HB.out)) hb);clear BK104;clear BK105;clear HB;have BK104:=n0_;have BK105:=n1_;have HB:=n2_;clear n0_ n1_ n2_;(try clear hb);(try clear hb2);(try clear hk);(try clear hi);have hcz35_0 : w34.cell? ⟨gb104,0,none⟩ = some (.int .i64 a0_0):=(kC BK104.out 0).trans rfl;have hcz35_1 : w34.cell? ⟨gb104,1,none⟩ = some (.int .i64 a0_1):=(kC BK104.out 1).trans rfl;have hcz35_2 : w34.cell? ⟨gb104,2,none⟩ = some (.int .i64 a0_2):=(kC BK104.out 2).trans rfl;have hcz35_3 : w34.cell? ⟨gb104,3,none⟩ = some (.int .i64 a0_3):=(kC BK104.out 3).trans rfl;have hfz35_0:=blk_frozen BK104.out 0;have hfz35_1:=blk_frozen BK104.out 1;have hfz35_2:=blk_frozen BK104.out 2;have hfz35_3:=blk_frozen BK104.out 3;have hcz36_0 : w34.cell? ⟨gb105,0,none⟩ = some (.int .i64 a1_0):=(kC BK105.out 0).trans rfl;have hcz36_1 : w34.cell? ⟨gb105,1,none⟩ = some (.int .i64 a1_1):=(kC BK105.out 1).trans rfl;have hcz36_2 : w34.cell? ⟨gb105,2,none⟩ = some (.int .i64 a1_2):=(kC BK105.out 2).trans rfl;have hcz36_3 : w34.cell? ⟨gb105,3,none⟩ = some (.int .i64 a1_3):=(kC BK105.out 3).trans rfl;have hfz36_0:=blk_frozen BK105.out 0;have hfz36_1:=blk_frozen BK105.out 1;have hfz36_2:=blk_frozen BK105.out 2;have hfz36_3:=blk_frozen BK105.out 3))
     go_ret
     exact ⟨by first|rfl|(simp [errW_none,errW_some] <;> rfl)|(simp [*,errW_none,errW_some] <;> rfl),by repeat (first|(with_reducible first|exact HB.out|apply bA|apply bN|apply bD|refine bS ?_ GE104.out|refine bS ?_ GE105.out)|exact HB.out)⟩
   ·rw [if_neg c7] at H
    have c7b0 : decide (a0_0 ≤ a1_1) = false:=decide_eq_false c7
    clear c7
    obtain rfl:=Option.some.inj H
    go_enter Try.func29,Try.ntmps29
    go_wp2_with (first|((with_reducible refine gate_dst (N:=2) rfl ?_);refine box_event ?hg (N:=2) ?hd (cs:=#[.int .i64 a0_0,.int .i64 a0_1,.int .i64 a0_2,.int .i64 a0_3]) (t:=36) ?hr ?_;(case hd => rfl);(case hg => rfl);(case hr => first|(go_simp;done)|(go_simp;rfl));intro gb104 hg w37 hbox hb;have n0_:=Ak (below_step (by repeat (first|(with_reducible first|exact HB.out|apply bA|apply bN|apply bD)|exact HB.out)) hb);have n1_:=Ak (hbox);have n2_:=Ak ((by rw [hg];exact (below_size (by repeat (first|(with_reducible first|exact HB.out|apply bA|apply bN|apply bD)|exact HB.out))) : w.heap.size ≤ gb104));have n3_:=Ak ((by rw [hg];exact (below_size (by repeat (first|(with_reducible first|exact HB.out|apply bA|apply bN|apply bD)|exact HB.out))) : w.heap.size ≤ gb104));clear HB;have HB:=n0_;have BK104:=n1_;have GW104:=n2_;have GE104:=n3_;clear n0_ n1_ n2_ n3_;clear hb hbox hg)|((with_reducible refine gate_dst (N:=3) rfl ?_);refine box_event ?hg (N:=3) ?hd (cs:=#[.int .i64 a1_0,.int .i64 a1_1,.int .i64 a1_2,.int .i64 a1_3]) (t:=36) ?hr ?_;(case hd => rfl);(case hg => rfl);(case hr => first|(go_simp;done)|(go_simp;rfl));intro gb105 hg w38 hbox hb;have n0_:=Ak (kB (g:=gb104) (o:=.cells #[.int .i64 a0_0,.int .i64 a0_1,.int .i64 a0_2,.int .i64 a0_3] 36 (0,0)) (by (with_reducible repeat (first|refine kN ?_ _|refine kD ?_|refine kA ?_ _));exact BK104.out) hb);have n1_:=Ak (below_step (by repeat (first|(with_reducible first|exact HB.out|apply bA|apply bN|apply bD|refine bS ?_ GE104.out)|exact HB.out)) hb);have n2_:=Ak (hbox);have n3_:=Ak ((by rw [hg];exact (below_size (by repeat (first|(with_reducible first|exact HB.out|apply bA|apply bN|apply bD|refine bS ?_ GE104.out)|exact HB.out))) : w.heap.size ≤ gb105));have n4_:=Ak ((by rw [hg];exact (below_size (by repeat (first|(with_reducible first|exact HB.out|apply bA|apply bN|apply bD|refine bS ?_ GE104.out)|exact HB.out))) : w.heap.size ≤ gb105));have n5_:=Ak ((by rw [hg];exact Nat.ne_of_lt (blk_lt (g:=gb104) (o:=.cells #[.int .i64 a0_0,.int .i64 a0_1,.int .i64 a0_2,.int .i64 a0_3] 36 (0,0)) (by (with_reducible repeat (first|refine kN ?_ _|refine kD ?_|refine kA ?_ _));exact BK104.out)) : gb104 ≠ gb105));have n6_:=Ak ((by rw [hg];exact Nat.ne_of_gt (blk_lt (g:=gb104) (o:=.cells #[.int .i64 a0_0,.int .i64 a0_1,.int .i64 a0_2,.int .i64 a0_3] 36 (0,0)) (by (with_reducible repeat (first|refine kN ?_ _|refine kD ?_|refine kA ?_ _));exact BK104.out)) : gb105 ≠ gb104));clear BK104;clear HB;have BK104:=n0_;have HB:=n1_;have BK105:=n2_;have GW105:=n3_;have GE105:=n4_;have NB104_105:=n5_;have NB105_104:=n6_;clear n0_ n1_ n2_ n3_ n4_ n5_ n6_;clear hb hbox hg;have hnb39:=NB104_105.out;have hnc39:=NB105_104.out;have hcz40_0 : w38.cell? ⟨gb104,0,none⟩ = some (.int .i64 a0_0):=(kC BK104.out 0).trans rfl;have hcz40_1 : w38.cell? ⟨gb104,1,none⟩ = some (.int .i64 a0_1):=(kC BK104.out 1).trans rfl;have hcz40_2 : w38.cell? ⟨gb104,2,none⟩ = some (.int .i64 a0_2):=(kC BK104.out 2).trans rfl;have hcz40_3 : w38.cell? ⟨gb104,3,none⟩ = some (.int .i64 a0_3):=(kC BK104.out 3).trans rfl;have hfz40_0:=blk_frozen BK104.out 0;have hfz40_1:=blk_frozen BK104.out 1;have hfz40_2:=blk_frozen BK104.out 2;have hfz40_3:=blk_frozen BK104.out 3)|((with_reducible refine gate_callee (f:=53) rfl ?_);refine goesL_ (some 6) rfl rfl Try.func53 (by kernel_rfl) rfl #[.agg #[.int .i64 a0_0,.int .i64 a0_1,.int .i64 a0_2,.int .i64 a0_3]] rfl (by (try simp only [List.map_toArray,List.map_cons,List.map_nil]);first|done|rfl|(simp only [List.length_drop,List.length_take];rfl)) ?_;(with_reducible refine (key_box.calls a0_0 a0_1 a0_2 a0_3 true _ A3.out).mono ?_);rintro e w41 ⟨rfl,hb⟩;refine ⟨_,rfl,?_⟩;have n0_:=Ak (kB (g:=gb104) (o:=.cells #[.int .i64 a0_0,.int .i64 a0_1,.int .i64 a0_2,.int .i64 a0_3] 36 (0,0)) (by (with_reducible repeat (first|refine kN ?_ _|refine kD ?_|refine kA ?_ _));exact BK104.out) hb);have n1_:=Ak (kB (g:=gb105) (o:=.cells #[.int .i64 a1_0,.int .i64 a1_1,.int .i64 a1_2,.int .i64 a1_3] 36 (0,0)) (by (with_reducible repeat (first|refine kN ?_ _|refine kD ?_|refine kA ?_ _));exact BK105.out) hb);have n2_:=Ak (below_step (by repeat (first|(with_reducible first|exact HB.out|apply bA|apply bN|apply bD|refine bS ?_ GE104.out|refine bS ?_ GE105.out)|exact HB.out)) hb);clear BK104;clear BK105;clear HB;have BK104:=n0_;have BK105:=n1_;have HB:=n2_;clear n0_ n1_ n2_;(try clear hb);(try clear hb2);(try clear hk);(try clear hi);have hcz42_0 : w41.cell? ⟨gb105,0,none⟩ = some (.int .i64 a1_0):=(kC BK105.out 0).trans rfl;have hcz42_1 : w41.cell? ⟨gb105,1,none⟩ = some (.int .i64 a1_1):=(kC BK105.out 1).trans rfl;have hcz42_2 : w41.cell? ⟨gb105,2,none⟩ = some (.int .i64 a1_2):=(kC BK105.out 2).trans rfl;have hcz42_3 : w41.cell? ⟨gb105,3,none⟩ = some (.int .i64 a1_3):=(kC BK105.out 3).trans rfl;have hfz42_0:=blk_frozen BK105.out 0;have hfz42_1:=blk_frozen BK105.out 1;have hfz42_2:=blk_frozen BK105.out 2;have hfz42_3:=blk_frozen BK105.out 3)|(go_at_call 53;(with_reducible refine (key_box.calls a1_0 a1_1 a1_2 a1_3 true _ A5.out).mono ?_);rintro e w43 ⟨rfl,hb⟩;have n0_:=Ak (kB (g:=gb104) (o:=.cells #[.int .i64 a0_0,.int .i64 a0_1,.int .i64 a0_2,.int .i64 a0_3] 36 (0,0)) (by (with_reducible repeat (first|refine kN ?_ _|refine kD ?_|refine kA ?_ _));exact BK104.out) hb);have n1_:=Ak (kB (g:=gb105) (o:=.cells #[.int .i64 a1_0,.int .i64 a1_1,.int .i64 a1_2,.int .i64 a1_3] 36 (0,0)) (by (with_reducible repeat (first|refine kN ?_ _|refine kD ?_|refine kA ?_ _));exact BK105.out) hb);have n2_:=Ak (below_step (by repeat (first|(with_reducible first|exact HB.out|apply bA|apply bN|apply bD|refine bS ?_ GE104.out|refine bS ?_ GE105.out)|exact HB.out)) hb);clear BK104;clear BK105;clear HB;have BK104:=n0_;have BK105:=n1_;have HB:=n2_;clear n0_ n1_ n2_;(try clear hb);(try clear hb2);(try clear hk);(try clear hi);have hcz44_0 : w43.cell? ⟨gb104,0,none⟩ = some (.int .i64 a0_0):=(kC BK104.out 0).trans rfl;have hcz44_1 : w43.cell? ⟨gb104,1,none⟩ = some (.int .i64 a0_1):=(kC BK104.out 1).trans rfl;have hcz44_2 : w43.cell? ⟨gb104,2,none⟩ = some (.int .i64 a0_2):=(kC BK104.out 2).trans rfl;have hcz44_3 : w43.cell? ⟨gb104,3,none⟩ = some (.int .i64 a0_3):=(kC BK104.out 3).trans rfl;have hfz44_0:=blk_frozen BK104.out 0;have hfz44_1:=blk_frozen BK104.out 1;have hfz44_2:=blk_frozen BK104.out 2;have hfz44_3:=blk_frozen BK104.out 3;have hcz45_0 : w43.cell? ⟨gb105,0,none⟩ = some (.int .i64 a1_0):=(kC BK105.out 0).trans rfl;have hcz45_1 : w43.cell? ⟨gb105,1,none⟩ = some (.int .i64 a1_1):=(kC BK105.out 1).trans rfl;have hcz45_2 : w43.cell? ⟨gb105,2,none⟩ = some (.int .i64 a1_2):=(kC BK105.out 2).trans rfl;have hcz45_3 : w43.cell? ⟨gb105,3,none⟩ = some (.int .i64 a1_3):=(kC BK105.out 3).trans rfl;have hfz45_0:=blk_frozen BK105.out 0;have hfz45_1:=blk_frozen BK105.out 1;have hfz45_2:=blk_frozen BK105.out 2;have hfz45_3:=blk_frozen BK105.out 3))
    go_ret
    exact ⟨by first|rfl|(simp [errW_none,errW_some] <;> rfl)|(simp [*,errW_none,errW_some] <;> rfl),by repeat (first|(with_reducible first|exact HB.out|apply bA|apply bN|apply bD|refine bS ?_ GE104.out|refine bS ?_ GE105.out)|exact HB.out)⟩
  ·replace c6:=Bool.eq_false_iff.mpr c6
   subst c6
   have H1 : (some false) = some r:=by rw [if_neg (show ¬ (false = true) by decide)] at H;exact H
   clear H
   have H:=H1
   clear H1
   obtain rfl:=Option.some.inj H
   go_enter Try.func29,Try.ntmps29
   go_wp2_with (first|((with_reducible refine gate_dst (N:=2) rfl ?_);refine box_event ?hg (N:=2) ?hd (cs:=#[.int .i64 a0_0,.int .i64 a0_1,.int .i64 a0_2,.int .i64 a0_3]) (t:=36) ?hr ?_;(case hd => rfl);(case hg => rfl);(case hr => first|(go_simp;done)|(go_simp;rfl));intro gb104 hg w46 hbox hb;have n0_:=Ak (below_step (by repeat (first|(with_reducible first|exact HB.out|apply bA|apply bN|apply bD)|exact HB.out)) hb);have n1_:=Ak (hbox);have n2_:=Ak ((by rw [hg];exact (below_size (by repeat (first|(with_reducible first|exact HB.out|apply bA|apply bN|apply bD)|exact HB.out))) : w.heap.size ≤ gb104));have n3_:=Ak ((by rw [hg];exact (below_size (by repeat (first|(with_reducible first|exact HB.out|apply bA|apply bN|apply bD)|exact HB.out))) : w.heap.size ≤ gb104));clear HB;have HB:=n0_;have BK104:=n1_;have GW104:=n2_;have GE104:=n3_;clear n0_ n1_ n2_ n3_;clear hb hbox hg)|((with_reducible refine gate_dst (N:=3) rfl ?_);refine box_event ?hg (N:=3) ?hd (cs:=#[.int .i64 a1_0,.int .i64 a1_1,.int .i64 a1_2,.int .i64 a1_3]) (t:=36) ?hr ?_;(case hd => rfl);(case hg => rfl);(case hr => first|(go_simp;done)|(go_simp;rfl));intro gb105 hg w47 hbox hb;have n0_:=Ak (kB (g:=gb104) (o:=.cells #[.int .i64 a0_0,.int .i64 a0_1,.int .i64 a0_2,.int .i64 a0_3] 36 (0,0)) (by (with_reducible repeat (first|refine kN ?_ _|refine kD ?_|refine kA ?_ _));exact BK104.out) hb);have n1_:=Ak (below_step (by repeat (first|(with_reducible first|exact HB.out|apply bA|apply bN|apply bD|refine bS ?_ GE104.out)|exact HB.out)) hb);have n2_:=Ak (hbox);have n3_:=Ak ((by rw [hg];exact (below_size (by repeat (first|(with_reducible first|exact HB.out|apply bA|apply bN|apply bD|refine bS ?_ GE104.out)|exact HB.out))) : w.heap.size ≤ gb105));have n4_:=Ak ((by rw [hg];exact (below_size (by repeat (first|(with_reducible first|exact HB.out|apply bA|apply bN|apply bD|refine bS ?_ GE104.out)|exact HB.out))) : w.heap.size ≤ gb105));have n5_:=Ak ((by rw [hg];exact Nat.ne_of_lt (blk_lt (g:=gb104) (o:=.cells #[.int .i64 a0_0,.int .i64 a0_1,.int .i64 a0_2,.int .i64 a0_3] 36 (0,0)) (by (with_reducible repeat (first|refine kN ?_ _|refine kD ?_|refine kA ?_ _));exact BK104.out)) : gb104 ≠ gb105));have n6_:=Ak ((by rw [hg];exact Nat.ne_of_gt (blk_lt (g:=gb104) (o:=.cells #[.int .i64 a0_0,.int .i64 a0_1,.int .i64 a0_2,.int .i64 a0_3] 36 (0,0)) (by (with_reducible repeat (first|refine kN ?_ _|refine kD ?_|refine kA ?_ _));exact BK104.out)) : gb105 ≠ gb104));clear BK104;clear HB;have BK104:=n0_;have HB:=n1_;have BK105:=n2_;have GW105:=n3_;have GE105:=n4_;have NB104_105:=n5_;have NB105_104:=n6_;clear n0_ n1_ n2_ n3_ n4_ n5_ n6_;clear hb hbox hg;have hnb48:=NB104_105.out;have hnc48:=NB105_104.out;have hcz49_0 : w47.cell? ⟨gb104,0,none⟩ = some (.int .i64 a0_0):=(kC BK104.out 0).trans rfl;have hcz49_1 : w47.cell? ⟨gb104,1,none⟩ = some (.int .i64 a0_1):=(kC BK104.out 1).trans rfl;have hcz49_2 : w47.cell? ⟨gb104,2,none⟩ = some (.int .i64 a0_2):=(kC BK104.out 2).trans rfl;have hcz49_3 : w47.cell? ⟨gb104,3,none⟩ = some (.int .i64 a0_3):=(kC BK104.out 3).trans rfl;have hfz49_0:=blk_frozen BK104.out 0;have hfz49_1:=blk_frozen BK104.out 1;have hfz49_2:=blk_frozen BK104.out 2;have hfz49_3:=blk_frozen BK104.out 3)|((with_reducible refine gate_callee (f:=53) rfl ?_);refine goesL_ (some 6) rfl rfl Try.func53 (by kernel_rfl) rfl #[.agg #[.int .i64 a0_0,.int .i64 a0_1,.int .i64 a0_2,.int .i64 a0_3]] rfl (by (try simp only [List.map_toArray,List.map_cons,List.map_nil]);first|done|rfl|(simp only [List.length_drop,List.length_take];rfl)) ?_;(with_reducible refine (key_box.calls a0_0 a0_1 a0_2 a0_3 true _ A3.out).mono ?_);rintro e w50 ⟨rfl,hb⟩;refine ⟨_,rfl,?_⟩;have n0_:=Ak (kB (g:=gb104) (o:=.cells #[.int .i64 a0_0,.int .i64 a0_1,.int .i64 a0_2,.int .i64 a0_3] 36 (0,0)) (by (with_reducible repeat (first|refine kN ?_ _|refine kD ?_|refine kA ?_ _));exact BK104.out) hb);have n1_:=Ak (kB (g:=gb105) (o:=.cells #[.int .i64 a1_0,.int .i64 a1_1,.int .i64 a1_2,.int .i64 a1_3] 36 (0,0)) (by (with_reducible repeat (first|refine kN ?_ _|refine kD ?_|refine kA ?_ _));exact BK105.out) hb);have n2_:=Ak (below_step (by repeat (first|(with_reducible first|exact HB.out|apply bA|apply bN|apply bD|refine bS ?_ GE104.out|refine bS ?_ GE105.out)|exact HB.out)) hb);clear BK104;clear BK105;clear HB;have BK104:=n0_;have BK105:=n1_;have HB:=n2_;clear n0_ n1_ n2_;(try clear hb);(try clear hb2);(try clear hk);(try clear hi);have hcz51_0 : w50.cell? ⟨gb105,0,none⟩ = some (.int .i64 a1_0):=(kC BK105.out 0).trans rfl;have hcz51_1 : w50.cell? ⟨gb105,1,none⟩ = some (.int .i64 a1_1):=(kC BK105.out 1).trans rfl;have hcz51_2 : w50.cell? ⟨gb105,2,none⟩ = some (.int .i64 a1_2):=(kC BK105.out 2).trans rfl;have hcz51_3 : w50.cell? ⟨gb105,3,none⟩ = some (.int .i64 a1_3):=(kC BK105.out 3).trans rfl;have hfz51_0:=blk_frozen BK105.out 0;have hfz51_1:=blk_frozen BK105.out 1;have hfz51_2:=blk_frozen BK105.out 2;have hfz51_3:=blk_frozen BK105.out 3)|(go_at_call 53;(with_reducible refine (key_box.calls a1_0 a1_1 a1_2 a1_3 false _ A5.out).mono ?_);rintro e w52 ⟨rfl,hb⟩;have n0_:=Ak (kB (g:=gb104) (o:=.cells #[.int .i64 a0_0,.int .i64 a0_1,.int .i64 a0_2,.int .i64 a0_3] 36 (0,0)) (by (with_reducible repeat (first|refine kN ?_ _|refine kD ?_|refine kA ?_ _));exact BK104.out) hb);have n1_:=Ak (kB (g:=gb105) (o:=.cells #[.int .i64 a1_0,.int .i64 a1_1,.int .i64 a1_2,.int .i64 a1_3] 36 (0,0)) (by (with_reducible repeat (first|refine kN ?_ _|refine kD ?_|refine kA ?_ _));exact BK105.out) hb);have n2_:=Ak (below_step (by repeat (first|(with_reducible first|exact HB.out|apply bA|apply bN|apply bD|refine bS ?_ GE104.out|refine bS ?_ GE105.out)|exact HB.out)) hb);clear BK104;clear BK105;clear HB;have BK104:=n0_;have BK105:=n1_;have HB:=n2_;clear n0_ n1_ n2_;(try clear hb);(try clear hb2);(try clear hk);(try clear hi)))
   go_ret
   exact ⟨by first|rfl|(simp [errW_none,errW_some] <;> rfl)|(simp [*,errW_none,errW_some] <;> rfl),by repeat (first|(with_reducible first|exact HB.out|apply bA|apply bN|apply bD|refine bS ?_ GE104.out|refine bS ?_ GE105.out)|exact HB.out)⟩
 ·replace c4:=Bool.eq_false_iff.mpr c4
  subst c4
  have H1 : (some false) = some r:=by rw [if_neg (show ¬ (false = true) by decide)] at H;exact H
  clear H
  have H:=H1
  clear H1
  obtain rfl:=Option.some.inj H
  go_enter Try.func29,Try.ntmps29
  go_wp2_with (first|((with_reducible refine gate_dst (N:=2) rfl ?_);refine box_event ?hg (N:=2) ?hd (cs:=#[.int .i64 a0_0,.int .i64 a0_1,.int .i64 a0_2,.int .i64 a0_3]) (t:=36) ?hr ?_;(case hd => rfl);(case hg => rfl);(case hr => first|(go_simp;done)|(go_simp;rfl));intro gb104 hg w53 hbox hb;have n0_:=Ak (below_step (by repeat (first|(with_reducible first|exact HB.out|apply bA|apply bN|apply bD)|exact HB.out)) hb);have n1_:=Ak (hbox);have n2_:=Ak ((by rw [hg];exact (below_size (by repeat (first|(with_reducible first|exact HB.out|apply bA|apply bN|apply bD)|exact HB.out))) : w.heap.size ≤ gb104));have n3_:=Ak ((by rw [hg];exact (below_size (by repeat (first|(with_reducible first|exact HB.out|apply bA|apply bN|apply bD)|exact HB.out))) : w.heap.size ≤ gb104));clear HB;have HB:=n0_;have BK104:=n1_;have GW104:=n2_;have GE104:=n3_;clear n0_ n1_ n2_ n3_;clear hb hbox hg)|((with_reducible refine gate_dst (N:=3) rfl ?_);refine box_event ?hg (N:=3) ?hd (cs:=#[.int .i64 a1_0,.int .i64 a1_1,.int .i64 a1_2,.int .i64 a1_3]) (t:=36) ?hr ?_;(case hd => rfl);(case hg => rfl);(case hr => first|(go_simp;done)|(go_simp;rfl));intro gb105 hg w54 hbox hb;have n0_:=Ak (kB (g:=gb104) (o:=.cells #[.int .i64 a0_0,.int .i64 a0_1,.int .i64 a0_2,.int .i64 a0_3] 36 (0,0)) (by (with_reducible repeat (first|refine kN ?_ _|refine kD ?_|refine kA ?_ _));exact BK104.out) hb);have n1_:=Ak (below_step (by repeat (first|(with_reducible first|exact HB.out|apply bA|apply bN|apply bD|refine bS ?_ GE104.out)|exact HB.out)) hb);have n2_:=Ak (hbox);have n3_:=Ak ((by rw [hg];exact (below_size (by repeat (first|(with_reducible first|exact HB.out|apply bA|apply bN|apply bD|refine bS ?_ GE104.out)|exact HB.out))) : w.heap.size ≤ gb105));have n4_:=Ak ((by rw [hg];exact (below_size (by repeat (first|(with_reducible first|exact HB.out|apply bA|apply bN|apply bD|refine bS ?_ GE104.out)|exact HB.out))) : w.heap.size ≤ gb105));have n5_:=Ak ((by rw [hg];exact Nat.ne_of_lt (blk_lt (g:=gb104) (o:=.cells #[.int .i64 a0_0,.int .i64 a0_1,.int .i64 a0_2,.int .i64 a0_3] 36 (0,0)) (by (with_reducible repeat (first|refine kN ?_ _|refine kD ?_|refine kA ?_ _));exact BK104.out)) : gb104 ≠ gb105));have n6_:=Ak ((by rw [hg];exact Nat.ne_of_gt (blk_lt (g:=gb104) (o:=.cells #[.int .i64 a0_0,.int .i64 a0_1,.int .i64 a0_2,.int .i64 a0_3] 36 (0,0)) (by (with_reducible repeat (first|refine kN ?_ _|refine kD ?_|refine kA ?_ _));exact BK104.out)) : gb105 ≠ gb104));clear BK104;clear HB;have BK104:=n0_;have HB:=n1_;have BK105:=n2_;have GW105:=n3_;have GE105:=n4_;have NB104_105:=n5_;have NB105_104:=n6_;clear n0_ n1_ n2_ n3_ n4_ n5_ n6_;clear hb hbox hg;have hnb55:=NB104_105.out;have hnc55:=NB105_104.out;have hcz56_0 : w54.cell? ⟨gb104,0,none⟩ = some (.int .i64 a0_0):=(kC BK104.out 0).trans rfl;have hcz56_1 : w54.cell? ⟨gb104,1,none⟩ = some (.int .i64 a0_1):=(kC BK104.out 1).trans rfl;have hcz56_2 : w54.cell? ⟨gb104,2,none⟩ = some (.int .i64 a0_2):=(kC BK104.out 2).trans rfl;have hcz56_3 : w54.cell? ⟨gb104,3,none⟩ = some (.int .i64 a0_3):=(kC BK104.out 3).trans rfl;have hfz56_0:=blk_frozen BK104.out 0;have hfz56_1:=blk_frozen BK104.out 1;have hfz56_2:=blk_frozen BK104.out 2;have hfz56_3:=blk_frozen BK104.out 3)|((with_reducible refine gate_callee (f:=53) rfl ?_);refine goesL_ (some 6) rfl rfl Try.func53 (by kernel_rfl) rfl #[.agg #[.int .i64 a0_0,.int .i64 a0_1,.int .i64 a0_2,.int .i64 a0_3]] rfl (by (try simp only [List.map_toArray,List.map_cons,List.map_nil]);first|done|rfl|(simp only [List.length_drop,List.length_take];rfl)) ?_;(with_reducible refine (key_box.calls a0_0 a0_1 a0_2 a0_3 false _ A3.out).mono ?_);rintro e w57 ⟨rfl,hb⟩;refine ⟨_,rfl,?_⟩;have n0_:=Ak (kB (g:=gb104) (o:=.cells #[.int .i64 a0_0,.int .i64 a0_1,.int .i64 a0_2,.int .i64 a0_3] 36 (0,0)) (by (with_reducible repeat (first|refine kN ?_ _|refine kD ?_|refine kA ?_ _));exact BK104.out) hb);have n1_:=Ak (kB (g:=gb105) (o:=.cells #[.int .i64 a1_0,.int .i64 a1_1,.int .i64 a1_2,.int .i64 a1_3] 36 (0,0)) (by (with_reducible repeat (first|refine kN ?_ _|refine kD ?_|refine kA ?_ _));exact BK105.out) hb);have n2_:=Ak (below_step (by repeat (first|(with_reducible first|exact HB.out|apply bA|apply bN|apply bD|refine bS ?_ GE104.out|refine bS ?_ GE105.out)|exact HB.out)) hb);clear BK104;clear BK105;clear HB;have BK104:=n0_;have BK105:=n1_;have HB:=n2_;clear n0_ n1_ n2_;(try clear hb);(try clear hb2);(try clear hk);(try clear hi)))
  go_ret
  exact ⟨by first|rfl|(simp [errW_none,errW_some] <;> rfl)|(simp [*,errW_none,errW_some] <;> rfl),by repeat (first|(with_reducible first|exact HB.out|apply bA|apply bN|apply bD|refine bS ?_ GE104.out|refine bS ?_ GE105.out)|exact HB.out)⟩
def model_Check.l0 : Nat → Bool → Int → List (S51) → Int → Int → Option (Int)
  | 0, _, _, _, _, _ => none
  | k + 1, x3, x4, x12, x13, x14 => if x14 < x13 then (if 0 ≤ x14 then (if x14 < (x12.length : Int) then (if x3 = true then (if ((rd_T51 x12 x14).f0) > x4 then ((key_Check.f 1 ((rd_T51 x12 x14).f1.f0) ((rd_T51 x12 x14).f1.f1) ((rd_T51 x12 x14).f1.f2) ((rd_T51 x12 x14).f1.f3)).bind fun t111 => (model_Check.l0 k (t111 == 0) ((rd_T51 x12 x14).f0) x12 x13 (wrap64 (x14 + 1)))) else (model_Check.l0 k false ((rd_T51 x12 x14).f0) x12 x13 (wrap64 (x14 + 1)))) else (model_Check.l0 k false ((rd_T51 x12 x14).f0) x12 x13 (wrap64 (x14 + 1)))) else (none)) else (none)) else (if x3 = true then (some 0) else (some 320))
def model_Check.f (k : Nat) (l0_0 : List (S51)) : Option (Int) := model_Check.l0 k (decide ((l0_0.length : Int) ≤ 128)) 0 l0_0 (l0_0.length : Int) 0
theorem model_Check.mono_l : ∀ k, (∀ y0 y1 y2 y3 y4, LeO (model_Check.l0 k y0 y1 y2 y3 y4) (model_Check.l0 (k + 1) y0 y1 y2 y3 y4))
  | 0 => fun _ _ _ _ _ r h => by simp [model_Check.l0] at h
  | k + 1 => by
    have ih0 := model_Check.mono_l k
    · intro y0 y1 y2 y3 y4
      unfold model_Check.l0
      repeat' first
      | (with_reducible exact ih0 _ _ _ _ _)
      | (with_reducible exact LeO.refl _)
      | (with_reducible exact LeO.none _)
      | (with_reducible refine LeO.ite ?_ ?_)
      | (with_reducible refine LeO.bind ?_ (fun _ => ?_))
      | exact ih0 _ _ _ _ _
      | exact LeO.none _
      | refine LeO.ite ?_ ?_
      | refine LeO.bind ?_ (fun _ => ?_)
theorem model_Check.mono : ∀ a0 k, LeO (model_Check.f k a0) (model_Check.f (k + 1) a0) := by
  intro a0 k
  have ih0 := model_Check.mono_l k
  unfold model_Check.f
  repeat' first
      | (with_reducible exact ih0 _ _ _ _ _)
      | (with_reducible exact LeO.refl _)
      | (with_reducible exact LeO.none _)
      | (with_reducible refine LeO.ite ?_ ?_)
      | (with_reducible refine LeO.bind ?_ (fun _ => ?_))
      | exact ih0 _ _ _ _ _
      | exact LeO.none _
      | refine LeO.ite ?_ ?_
      | refine LeO.bind ?_ (fun _ => ?_)
set_option maxHeartbeats 8000000 in
set_option maxRecDepth 100000 in
theorem model_Check.calls (k : Nat) (A0_0 : Option Addr) (c0_0 : Nat) (l0_0 : List (S51)) (r : Int) (w : World) (hr0_0 : Kd.C k51 w A0_0 l0_0.length l0_0) (hc0_0 : l0_0.length ≤ c0_0) (h : model_Check.f k l0_0 = some r) :
  Calls Try.prog 24 #[.agg #[.slice A0_0 l0_0.length c0_0]] w fun e w' => e = .returned (.int .i64 r)∧Below w.heap.size w w':=by
 have hu24:=Try.underlying24
 have hu51:=Try.underlying51
 have hu36:=Try.underlying36
 have HR0_0:=Ak hr0_0
 have HC0_0:=Ak hc0_0
 clear hr0_0 hc0_0
 have HB:=Ak (Below.refl w.heap.size w)
 have H : (model_Check.l0 k (decide ((l0_0.length : Int) ≤ 128)) 0 l0_0 (l0_0.length : Int) 0) = some r:=h
 clear h
 have H':=Ak H
 clear H
 go_enter Try.func24,Try.ntmps24
 go_wp2_with (first|((with_reducible refine gate_dst (N:=1) rfl ?_);refine box_event ?hg (N:=1) ?hd (cs:=#[.slice A0_0 l0_0.length c0_0]) (t:=24) ?hr ?_;(case hd => rfl);(case hg => rfl);(case hr => first|(go_simp;done)|(go_simp;rfl));intro gb108 hg w2 hbox hb;have n0_:=Ak (below_step (by repeat (first|(with_reducible first|exact HB.out|apply bA|apply bN|apply bD)|exact HB.out)) hb);have n1_:=Ak (hbox);have n2_:=Ak ((by rw [hg];exact (below_size (by repeat (first|(with_reducible first|exact HB.out|apply bA|apply bN|apply bD)|exact HB.out))) : w.heap.size ≤ gb108));have n3_:=Ak ((by rw [hg];exact (below_size (by repeat (first|(with_reducible first|exact HB.out|apply bA|apply bN|apply bD)|exact HB.out))) : w.heap.size ≤ gb108));clear HB;have HB:=n0_;have BK108:=n1_;have GW108:=n2_;have GE108:=n3_;clear n0_ n1_ n2_ n3_;clear hb hbox hg;have hcz3_0 : w2.cell? ⟨gb108,0,none⟩ = some (.slice A0_0 l0_0.length c0_0):=(kC BK108.out 0).trans rfl;have hfz3_0:=blk_frozen BK108.out 0))
 go_loopg [3,4,14] k (fun kq v3 v4 v14 w' => ∃ (x3_1 : Bool) (x4_1 : Int) (x14_1 : Int),v3 = .bool x3_1∧v4 = .int .u32 x4_1∧v14 = .int .i64 x14_1∧Aside0 (model_Check.l0 kq x3_1 x4_1 l0_0 (l0_0.length : Int) x14_1 = some r)∧Aside0 (kq ≤ k)∧Aside0 (w'.heap[gb108]? = some (.cells #[(.slice A0_0 l0_0.length c0_0)] 24 (0,0)))∧Aside0 (Below w.heap.size w w'))
 case atStart => exact ⟨(decide ((l0_0.length : Int) ≤ 128)),(0),(0),(by first|rfl|(simp;done)|(simp [*];done)),(by first|rfl|(simp;done)|(simp [*];done)),(by first|rfl|(simp;done)|(simp [*];done)),H',⟨Nat.le_refl _⟩,⟨by (with_reducible repeat (first|refine kN ?_ _|refine kD ?_|refine kA ?_ _));exact BK108.out⟩,⟨by repeat (first|(with_reducible first|exact HB.out|apply bA|apply bN|apply bD|refine bS ?_ GE108.out)|exact HB.out)⟩⟩
 case round =>
  clear H'
  try clear c2
  try clear p2
  try clear hcz3_0
  try clear hfz3_0
  obtain ⟨x3_1,x4_1,x14_1,rfl,rfl,rfl,HA,HK1,BK108,HB⟩:=hrel
  cases gk with
  | zero => exact absurd HA.out (by simp [model_Check.l0])
  | succ k1 =>
   have H:=HA.out
   clear HA
   simp only [model_Check.l0] at H
   by_cases c4 : x14_1 < (l0_0.length : Int)
   ·rw [if_pos c4] at H
    have c4b0 : decide (x14_1 < (l0_0.length : Int)) = true:=decide_eq_true c4
    clear c4
    by_cases c5 : 0 ≤ x14_1
    ·rw [if_pos c5] at H
     have c5b0 : decide (0 ≤ x14_1) = true:=decide_eq_true c5
     clear c5
     by_cases c6 : x14_1 < (l0_0.length : Int)
     ·rw [if_pos c6] at H
      have c6b0 : decide (x14_1 < (l0_0.length : Int)) = true:=decide_eq_true c6
      clear c6
      by_cases c7 : x3_1 = true
      ·subst c7
       have H1 : (if ((rd_T51 l0_0 x14_1).f0) > x4_1 then ((key_Check.f 1 ((rd_T51 l0_0 x14_1).f1.f0) ((rd_T51 l0_0 x14_1).f1.f1) ((rd_T51 l0_0 x14_1).f1.f2) ((rd_T51 l0_0 x14_1).f1.f3)).bind fun t111 => (model_Check.l0 k1 (t111 == 0) ((rd_T51 l0_0 x14_1).f0) l0_0 (l0_0.length : Int) (wrap64 (x14_1+1)))) else (model_Check.l0 k1 false ((rd_T51 l0_0 x14_1).f0) l0_0 (l0_0.length : Int) (wrap64 (x14_1+1)))) = some r:=by rw [if_pos rfl] at H;exact H
       clear H
       have H:=H1
       clear H1
       by_cases c8 : ((rd_T51 l0_0 x14_1).f0) > x4_1
       ·rw [if_pos c8] at H
        have c8b0 : decide (x4_1 < ((rd_T51 l0_0 x14_1).f0)) = true:=decide_eq_true c8
        clear c8
        replace H:=Option.bind_eq_some_iff.mp H
        obtain ⟨t111,A90,H⟩:=H
        replace H : (model_Check.l0 k1 (t111 == 0) ((rd_T51 l0_0 x14_1).f0) l0_0 (l0_0.length : Int) (wrap64 (x14_1+1))) = some r:=H
        have A9:=Ak A90
        clear A90
        have H':=Ak H
        clear H
        have p109 : 0 ≤ (x14_1 : Int):=of_decide_eq_true (by first|(with_reducible assumption)|assumption)
        have q109 : x14_1 < (l0_0.length : Int):=of_decide_eq_true (by first|(with_reducible assumption)|assumption)
        obtain ⟨ad109,e109,hx109_0,hx109_1,hx109_2,hx109_3,hx109_4,hx109_5⟩:=at_T51 HR0_0.out x14_1 p109 q109
        cases e109
        replace hx109_0:=(HB.out.cell (World.block_lt_of_cell? w _ hx109_0)).trans hx109_0
        replace hx109_1:=(HB.out.cell (World.block_lt_of_cell? w _ hx109_1)).trans hx109_1
        replace hx109_2:=(HB.out.cell (World.block_lt_of_cell? w _ hx109_2)).trans hx109_2
        replace hx109_3:=(HB.out.cell (World.block_lt_of_cell? w _ hx109_3)).trans hx109_3
        replace hx109_4:=(HB.out.cell (World.block_lt_of_cell? w _ hx109_4)).trans hx109_4
        replace hx109_5:=(HB.out.cell (World.block_lt_of_cell? w _ hx109_5)).trans hx109_5
        replace p109:=eq_true p109
        replace q109:=eq_true q109
        go_wp2_with (first|((with_reducible refine gate_dst (N:=6) rfl ?_);refine box_event ?hg (N:=6) ?hd (cs:=#[.int .u32 0,.int .i64 0,.int .i64 0,.int .i64 0,.int .i64 0,.int .i64 0]) (t:=51) ?hr ?_;(case hd => rfl);(case hg => rfl);(case hr => first|(go_simp;done)|(go_simp;rfl));intro gb110 hg w10 hbox hb;have n0_:=Ak (kB (g:=gb108) (o:=.cells #[.slice (some ad109) l0_0.length c0_0] 24 (0,0)) (by (with_reducible repeat (first|refine kN ?_ _|refine kD ?_|refine kA ?_ _));exact BK108.out) hb);have n1_:=Ak (below_step (by repeat (first|(with_reducible first|exact HB.out|apply bA|apply bN|apply bD|refine bS ?_ GE108.out)|exact HB.out)) hb);have n2_:=Ak (hbox);have n3_:=Ak ((by rw [hg];exact (below_size (by repeat (first|(with_reducible first|exact HB.out|apply bA|apply bN|apply bD|refine bS ?_ GE108.out)|exact HB.out))) : w.heap.size ≤ gb110));have n4_:=Ak ((by rw [hg];exact (below_size (by repeat (first|(with_reducible first|exact HB.out|apply bA|apply bN|apply bD|refine bS ?_ GE108.out)|exact HB.out))) : w.heap.size ≤ gb110));have n5_:=Ak ((by rw [hg];exact Nat.ne_of_lt (blk_lt (g:=gb108) (o:=.cells #[.slice (some ad109) l0_0.length c0_0] 24 (0,0)) (by (with_reducible repeat (first|refine kN ?_ _|refine kD ?_|refine kA ?_ _));exact BK108.out)) : gb108 ≠ gb110));have n6_:=Ak ((by rw [hg];exact Nat.ne_of_gt (blk_lt (g:=gb108) (o:=.cells #[.slice (some ad109) l0_0.length c0_0] 24 (0,0)) (by (with_reducible repeat (first|refine kN ?_ _|refine kD ?_|refine kA ?_ _));exact BK108.out)) : gb110 ≠ gb108));clear BK108;clear HB;have BK108:=n0_;have HB:=n1_;have BK110:=n2_;have GW110:=n3_;have GE110:=n4_;have NB108_110:=n5_;have NB110_108:=n6_;clear n0_ n1_ n2_ n3_ n4_ n5_ n6_;clear hb hbox hg;have hnb11:=NB110_108.out;have hnc11:=NB108_110.out;have hcz12_0 : w10.cell? ⟨gb110,0,none⟩ = some (.int .u32 0):=(kC BK110.out 0).trans rfl;have hcz12_1 : w10.cell? ⟨gb110,1,none⟩ = some (.int .i64 0):=(kC BK110.out 1).trans rfl;have hcz12_2 : w10.cell? ⟨gb110,2,none⟩ = some (.int .i64 0):=(kC BK110.out 2).trans rfl;have hcz12_3 : w10.cell? ⟨gb110,3,none⟩ = some (.int .i64 0):=(kC BK110.out 3).trans rfl;have hcz12_4 : w10.cell? ⟨gb110,4,none⟩ = some (.int .i64 0):=(kC BK110.out 4).trans rfl;have hcz12_5 : w10.cell? ⟨gb110,5,none⟩ = some (.int .i64 0):=(kC BK110.out 5).trans rfl;have hfz12_0:=blk_frozen BK110.out 0;have hfz12_1:=blk_frozen BK110.out 1;have hfz12_2:=blk_frozen BK110.out 2;have hfz12_3:=blk_frozen BK110.out 3;have hfz12_4:=blk_frozen BK110.out 4;have hfz12_5:=blk_frozen BK110.out 5)|(go_at_call 49;(with_reducible refine (key_Check.calls 1 ((rd_T51 l0_0 x14_1).f1.f0) ((rd_T51 l0_0 x14_1).f1.f1) ((rd_T51 l0_0 x14_1).f1.f2) ((rd_T51 l0_0 x14_1).f1.f3) t111 _ A9.out).mono ?_);rintro e w13 ⟨rfl,hb⟩;have n0_:=Ak (kB (g:=gb108) (o:=.cells #[.slice (some ad109) l0_0.length c0_0] 24 (0,0)) (by (with_reducible repeat (first|refine kN ?_ _|refine kD ?_|refine kA ?_ _));refine blk_far ?_ NB108_110.out _;(with_reducible repeat (first|refine kN ?_ _|refine kD ?_|refine kA ?_ _));refine blk_far ?_ NB108_110.out _;(with_reducible repeat (first|refine kN ?_ _|refine kD ?_|refine kA ?_ _));refine blk_far ?_ NB108_110.out _;(with_reducible repeat (first|refine kN ?_ _|refine kD ?_|refine kA ?_ _));refine blk_far ?_ NB108_110.out _;(with_reducible repeat (first|refine kN ?_ _|refine kD ?_|refine kA ?_ _));refine blk_far ?_ NB108_110.out _;(with_reducible repeat (first|refine kN ?_ _|refine kD ?_|refine kA ?_ _));refine blk_far ?_ NB108_110.out _;(with_reducible repeat (first|refine kN ?_ _|refine kD ?_|refine kA ?_ _));exact BK108.out) hb);have n1_:=Ak (kB (g:=gb110) (o:=.cells #[.int .u32 ((rd_T51 l0_0 x14_1).f0),.int .i64 ((rd_T51 l0_0 x14_1).f1.f0),.int .i64 ((rd_T51 l0_0 x14_1).f1.f1),.int .i64 ((rd_T51 l0_0 x14_1).f1.f2),.int .i64 ((rd_T51 l0_0 x14_1).f1.f3),.int .i64 ((rd_T51 l0_0 x14_1).f2)] 51 (0,0)) (by (with_reducible repeat (first|refine kN ?_ _|refine kD ?_|refine kA ?_ _));refine blk_put (cs:=#[.int .u32 ((rd_T51 l0_0 x14_1).f0),.int .i64 ((rd_T51 l0_0 x14_1).f1.f0),.int .i64 ((rd_T51 l0_0 x14_1).f1.f1),.int .i64 ((rd_T51 l0_0 x14_1).f1.f2),.int .i64 ((rd_T51 l0_0 x14_1).f1.f3),.int .i64 0]) ?_ 5 _ rfl;(with_reducible repeat (first|refine kN ?_ _|refine kD ?_|refine kA ?_ _));refine blk_put (cs:=#[.int .u32 ((rd_T51 l0_0 x14_1).f0),.int .i64 ((rd_T51 l0_0 x14_1).f1.f0),.int .i64 ((rd_T51 l0_0 x14_1).f1.f1),.int .i64 ((rd_T51 l0_0 x14_1).f1.f2),.int .i64 0,.int .i64 0]) ?_ 4 _ rfl;(with_reducible repeat (first|refine kN ?_ _|refine kD ?_|refine kA ?_ _));refine blk_put (cs:=#[.int .u32 ((rd_T51 l0_0 x14_1).f0),.int .i64 ((rd_T51 l0_0 x14_1).f1.f0),.int .i64 ((rd_T51 l0_0 x14_1).f1.f1),.int .i64 0,.int .i64 0,.int .i64 0]) ?_ 3 _ rfl;(with_reducible repeat (first|refine kN ?_ _|refine kD ?_|refine kA ?_ _));refine blk_put (cs:=#[.int .u32 ((rd_T51 l0_0 x14_1).f0),.int .i64 ((rd_T51 l0_0 x14_1).f1.f0),.int .i64 0,.int .i64 0,.int .i64 0,.int .i64 0]) ?_ 2 _ rfl;(with_reducible repeat (first|refine kN ?_ _|refine kD ?_|refine kA ?_ _));refine blk_put (cs:=#[.int .u32 ((rd_T51 l0_0 x14_1).f0),.int .i64 0,.int .i64 0,.int .i64 0,.int .i64 0,.int .i64 0]) ?_ 1 _ rfl;(with_reducible repeat (first|refine kN ?_ _|refine kD ?_|refine kA ?_ _));refine blk_put (cs:=#[.int .u32 0,.int .i64 0,.int .i64 0,.int .i64 0,.int .i64 0,.int .i64 0]) ?_ 0 _ rfl;(with_reducible repeat (first|refine kN ?_ _|refine kD ?_|refine kA ?_ _));exact BK110.out) hb);have n2_:=Ak (below_step (by repeat (first|(with_reducible first|exact HB.out|apply bA|apply bN|apply bD|refine bS ?_ GE108.out|refine bS ?_ GE110.out)|exact HB.out)) hb);clear BK108;clear BK110;clear HB;have BK108:=n0_;have BK110:=n1_;have HB:=n2_;clear n0_ n1_ n2_;(try clear hb);(try clear hb2);(try clear hk);(try clear hi);have hcz14_0 : w13.cell? ⟨gb110,0,none⟩ = some (.int .u32 ((rd_T51 l0_0 x14_1).f0)):=(kC BK110.out 0).trans rfl;have hcz14_1 : w13.cell? ⟨gb110,1,none⟩ = some (.int .i64 ((rd_T51 l0_0 x14_1).f1.f0)):=(kC BK110.out 1).trans rfl;have hcz14_2 : w13.cell? ⟨gb110,2,none⟩ = some (.int .i64 ((rd_T51 l0_0 x14_1).f1.f1)):=(kC BK110.out 2).trans rfl;have hcz14_3 : w13.cell? ⟨gb110,3,none⟩ = some (.int .i64 ((rd_T51 l0_0 x14_1).f1.f2)):=(kC BK110.out 3).trans rfl;have hcz14_4 : w13.cell? ⟨gb110,4,none⟩ = some (.int .i64 ((rd_T51 l0_0 x14_1).f1.f3)):=(kC BK110.out 4).trans rfl;have hcz14_5 : w13.cell? ⟨gb110,5,none⟩ = some (.int .i64 ((rd_T51 l0_0 x14_1).f2)):=(kC BK110.out 5).trans rfl;have hfz14_0:=blk_frozen BK110.out 0;have hfz14_1:=blk_frozen BK110.out 1;have hfz14_2:=blk_frozen BK110.out 2;have hfz14_3:=blk_frozen BK110.out 3;have hfz14_4:=blk_frozen BK110.out 4;have hfz14_5:=blk_frozen BK110.out 5))
        go_roundg k1
        case measure => have:=HK1.out;omega
        case rel => exact ⟨((t111 == 0)),((rd_T51 l0_0 x14_1).f0),(wrap64 (x14_1+1)),(by first|rfl|(simp;done)|(simp [*];done)),(by first|rfl|(simp;done)|(simp [*];done)),(by first|rfl|(simp;done)|(simp [*];done)),H',⟨by have:=HK1.out;omega⟩,⟨by (with_reducible repeat (first|refine kN ?_ _|refine kD ?_|refine kA ?_ _));exact BK108.out⟩,⟨by repeat (first|(with_reducible first|exact HB.out|apply bA|apply bN|apply bD|refine bS ?_ GE108.out|refine bS ?_ GE110.out)|exact HB.out)⟩⟩
       ·rw [if_neg c8] at H
        have c8b0 : decide (x4_1 < ((rd_T51 l0_0 x14_1).f0)) = false:=decide_eq_false c8
        clear c8
        have H':=Ak H
        clear H
        have p109 : 0 ≤ (x14_1 : Int):=of_decide_eq_true (by first|(with_reducible assumption)|assumption)
        have q109 : x14_1 < (l0_0.length : Int):=of_decide_eq_true (by first|(with_reducible assumption)|assumption)
        obtain ⟨ad109,e109,hx109_0,hx109_1,hx109_2,hx109_3,hx109_4,hx109_5⟩:=at_T51 HR0_0.out x14_1 p109 q109
        cases e109
        replace hx109_0:=(HB.out.cell (World.block_lt_of_cell? w _ hx109_0)).trans hx109_0
        replace hx109_1:=(HB.out.cell (World.block_lt_of_cell? w _ hx109_1)).trans hx109_1
        replace hx109_2:=(HB.out.cell (World.block_lt_of_cell? w _ hx109_2)).trans hx109_2
        replace hx109_3:=(HB.out.cell (World.block_lt_of_cell? w _ hx109_3)).trans hx109_3
        replace hx109_4:=(HB.out.cell (World.block_lt_of_cell? w _ hx109_4)).trans hx109_4
        replace hx109_5:=(HB.out.cell (World.block_lt_of_cell? w _ hx109_5)).trans hx109_5
        replace p109:=eq_true p109
        replace q109:=eq_true q109
        go_wp2_with (first|((with_reducible refine gate_dst (N:=6) rfl ?_);refine box_event ?hg (N:=6) ?hd (cs:=#[.int .u32 0,.int .i64 0,.int .i64 0,.int .i64 0,.int .i64 0,.int .i64 0]) (t:=51) ?hr ?_;(case hd => rfl);(case hg => rfl);(case hr => first|(go_simp;done)|(go_simp;rfl));intro gb110 hg w15 hbox hb;have n0_:=Ak (kB (g:=gb108) (o:=.cells #[.slice (some ad109) l0_0.length c0_0] 24 (0,0)) (by (with_reducible repeat (first|refine kN ?_ _|refine kD ?_|refine kA ?_ _));exact BK108.out) hb);have n1_:=Ak (below_step (by repeat (first|(with_reducible first|exact HB.out|apply bA|apply bN|apply bD|refine bS ?_ GE108.out)|exact HB.out)) hb);have n2_:=Ak (hbox);have n3_:=Ak ((by rw [hg];exact (below_size (by repeat (first|(with_reducible first|exact HB.out|apply bA|apply bN|apply bD|refine bS ?_ GE108.out)|exact HB.out))) : w.heap.size ≤ gb110));have n4_:=Ak ((by rw [hg];exact (below_size (by repeat (first|(with_reducible first|exact HB.out|apply bA|apply bN|apply bD|refine bS ?_ GE108.out)|exact HB.out))) : w.heap.size ≤ gb110));have n5_:=Ak ((by rw [hg];exact Nat.ne_of_lt (blk_lt (g:=gb108) (o:=.cells #[.slice (some ad109) l0_0.length c0_0] 24 (0,0)) (by (with_reducible repeat (first|refine kN ?_ _|refine kD ?_|refine kA ?_ _));exact BK108.out)) : gb108 ≠ gb110));have n6_:=Ak ((by rw [hg];exact Nat.ne_of_gt (blk_lt (g:=gb108) (o:=.cells #[.slice (some ad109) l0_0.length c0_0] 24 (0,0)) (by (with_reducible repeat (first|refine kN ?_ _|refine kD ?_|refine kA ?_ _));exact BK108.out)) : gb110 ≠ gb108));clear BK108;clear HB;have BK108:=n0_;have HB:=n1_;have BK110:=n2_;have GW110:=n3_;have GE110:=n4_;have NB108_110:=n5_;have NB110_108:=n6_;clear n0_ n1_ n2_ n3_ n4_ n5_ n6_;clear hb hbox hg;have hnb16:=NB110_108.out;have hnc16:=NB108_110.out;have hcz17_0 : w15.cell? ⟨gb110,0,none⟩ = some (.int .u32 0):=(kC BK110.out 0).trans rfl;have hcz17_1 : w15.cell? ⟨gb110,1,none⟩ = some (.int .i64 0):=(kC BK110.out 1).trans rfl;have hcz17_2 : w15.cell? ⟨gb110,2,none⟩ = some (.int .i64 0):=(kC BK110.out 2).trans rfl;have hcz17_3 : w15.cell? ⟨gb110,3,none⟩ = some (.int .i64 0):=(kC BK110.out 3).trans rfl;have hcz17_4 : w15.cell? ⟨gb110,4,none⟩ = some (.int .i64 0):=(kC BK110.out 4).trans rfl;have hcz17_5 : w15.cell? ⟨gb110,5,none⟩ = some (.int .i64 0):=(kC BK110.out 5).trans rfl;have hfz17_0:=blk_frozen BK110.out 0;have hfz17_1:=blk_frozen BK110.out 1;have hfz17_2:=blk_frozen BK110.out 2;have hfz17_3:=blk_frozen BK110.out 3;have hfz17_4:=blk_frozen BK110.out 4;have hfz17_5:=blk_frozen BK110.out 5))
        go_roundg k1
        case measure => have:=HK1.out;omega
        case rel => exact ⟨(false),((rd_T51 l0_0 x14_1).f0),(wrap64 (x14_1+1)),(by first|rfl|(simp;done)|(simp [*];done)),(by first|rfl|(simp;done)|(simp [*];done)),(by first|rfl|(simp;done)|(simp [*];done)),H',⟨by have:=HK1.out;omega⟩,⟨by (with_reducible repeat (first|refine kN ?_ _|refine kD ?_|refine kA ?_ _));refine blk_far ?_ NB108_110.out _;(with_reducible repeat (first|refine kN ?_ _|refine kD ?_|refine kA ?_ _));refine blk_far ?_ NB108_110.out _;(with_reducible repeat (first|refine kN ?_ _|refine kD ?_|refine kA ?_ _));refine blk_far ?_ NB108_110.out _;(with_reducible repeat (first|refine kN ?_ _|refine kD ?_|refine kA ?_ _));refine blk_far ?_ NB108_110.out _;(with_reducible repeat (first|refine kN ?_ _|refine kD ?_|refine kA ?_ _));refine blk_far ?_ NB108_110.out _;(with_reducible repeat (first|refine kN ?_ _|refine kD ?_|refine kA ?_ _));refine blk_far ?_ NB108_110.out _;(with_reducible repeat (first|refine kN ?_ _|refine kD ?_|refine kA ?_ _));exact BK108.out⟩,⟨by repeat (first|(with_reducible first|exact HB.out|apply bA|apply bN|apply bD|refine bS ?_ GE108.out|refine bS ?_ GE110.out)|exact HB.out)⟩⟩
      ·replace c7:=Bool.eq_false_iff.mpr c7
       subst c7
       have H1 : (model_Check.l0 k1 false ((rd_T51 l0_0 x14_1).f0) l0_0 (l0_0.length : Int) (wrap64 (x14_1+1))) = some r:=by rw [if_neg (show ¬ (false = true) by decide)] at H;exact H
       clear H
       have H:=H1
       clear H1
       have H':=Ak H
       clear H
       have p109 : 0 ≤ (x14_1 : Int):=of_decide_eq_true (by first|(with_reducible assumption)|assumption)
       have q109 : x14_1 < (l0_0.length : Int):=of_decide_eq_true (by first|(with_reducible assumption)|assumption)
       obtain ⟨ad109,e109,hx109_0,hx109_1,hx109_2,hx109_3,hx109_4,hx109_5⟩:=at_T51 HR0_0.out x14_1 p109 q109
       cases e109
       replace hx109_0:=(HB.out.cell (World.block_lt_of_cell? w _ hx109_0)).trans hx109_0
       replace hx109_1:=(HB.out.cell (World.block_lt_of_cell? w _ hx109_1)).trans hx109_1
       replace hx109_2:=(HB.out.cell (World.block_lt_of_cell? w _ hx109_2)).trans hx109_2
       replace hx109_3:=(HB.out.cell (World.block_lt_of_cell? w _ hx109_3)).trans hx109_3
       replace hx109_4:=(HB.out.cell (World.block_lt_of_cell? w _ hx109_4)).trans hx109_4
       replace hx109_5:=(HB.out.cell (World.block_lt_of_cell? w _ hx109_5)).trans hx109_5
       replace p109:=eq_true p109
       replace q109:=eq_true q109
       go_wp2_with (first|((with_reducible refine gate_dst (N:=6) rfl ?_);refine box_event ?hg (N:=6) ?hd (cs:=#[.int .u32 0,.int .i64 0,.int .i64 0,.int .i64 0,.int .i64 0,.int .i64 0]) (t:=51) ?hr ?_;(case hd => rfl);(case hg => rfl);(case hr => first|(go_simp;done)|(go_simp;rfl));intro gb110 hg w18 hbox hb;have n0_:=Ak (kB (g:=gb108) (o:=.cells #[.slice (some ad109) l0_0.length c0_0] 24 (0,0)) (by (with_reducible repeat (first|refine kN ?_ _|refine kD ?_|refine kA ?_ _));exact BK108.out) hb);have n1_:=Ak (below_step (by repeat (first|(with_reducible first|exact HB.out|apply bA|apply bN|apply bD|refine bS ?_ GE108.out)|exact HB.out)) hb);have n2_:=Ak (hbox);have n3_:=Ak ((by rw [hg];exact (below_size (by repeat (first|(with_reducible first|exact HB.out|apply bA|apply bN|apply bD|refine bS ?_ GE108.out)|exact HB.out))) : w.heap.size ≤ gb110));have n4_:=Ak ((by rw [hg];exact (below_size (by repeat (first|(with_reducible first|exact HB.out|apply bA|apply bN|apply bD|refine bS ?_ GE108.out)|exact HB.out))) : w.heap.size ≤ gb110));have n5_:=Ak ((by rw [hg];exact Nat.ne_of_lt (blk_lt (g:=gb108) (o:=.cells #[.slice (some ad109) l0_0.length c0_0] 24 (0,0)) (by (with_reducible repeat (first|refine kN ?_ _|refine kD ?_|refine kA ?_ _));exact BK108.out)) : gb108 ≠ gb110));have n6_:=Ak ((by rw [hg];exact Nat.ne_of_gt (blk_lt (g:=gb108) (o:=.cells #[.slice (some ad109) l0_0.length c0_0] 24 (0,0)) (by (with_reducible repeat (first|refine kN ?_ _|refine kD ?_|refine kA ?_ _));exact BK108.out)) : gb110 ≠ gb108));clear BK108;clear HB;have BK108:=n0_;have HB:=n1_;have BK110:=n2_;have GW110:=n3_;have GE110:=n4_;have NB108_110:=n5_;have NB110_108:=n6_;clear n0_ n1_ n2_ n3_ n4_ n5_ n6_;clear hb hbox hg;have hnb19:=NB110_108.out;have hnc19:=NB108_110.out;have hcz20_0 : w18.cell? ⟨gb110,0,none⟩ = some (.int .u32 0):=(kC BK110.out 0).trans rfl;have hcz20_1 : w18.cell? ⟨gb110,1,none⟩ = some (.int .i64 0):=(kC BK110.out 1).trans rfl;have hcz20_2 : w18.cell? ⟨gb110,2,none⟩ = some (.int .i64 0):=(kC BK110.out 2).trans rfl;have hcz20_3 : w18.cell? ⟨gb110,3,none⟩ = some (.int .i64 0):=(kC BK110.out 3).trans rfl;have hcz20_4 : w18.cell? ⟨gb110,4,none⟩ = some (.int .i64 0):=(kC BK110.out 4).trans rfl;have hcz20_5 : w18.cell? ⟨gb110,5,none⟩ = some (.int .i64 0):=(kC BK110.out 5).trans rfl;have hfz20_0:=blk_frozen BK110.out 0;have hfz20_1:=blk_frozen BK110.out 1;have hfz20_2:=blk_frozen BK110.out 2;have hfz20_3:=blk_frozen BK110.out 3;have hfz20_4:=blk_frozen BK110.out 4;have hfz20_5:=blk_frozen BK110.out 5))
       go_roundg k1
       case measure => have:=HK1.out;omega
       case rel => exact ⟨(false),((rd_T51 l0_0 x14_1).f0),(wrap64 (x14_1+1)),(by first|rfl|(simp;done)|(simp [*];done)),(by first|rfl|(simp;done)|(simp [*];done)),(by first|rfl|(simp;done)|(simp [*];done)),H',⟨by have:=HK1.out;omega⟩,⟨by (with_reducible repeat (first|refine kN ?_ _|refine kD ?_|refine kA ?_ _));refine blk_far ?_ NB108_110.out _;(with_reducible repeat (first|refine kN ?_ _|refine kD ?_|refine kA ?_ _));refine blk_far ?_ NB108_110.out _;(with_reducible repeat (first|refine kN ?_ _|refine kD ?_|refine kA ?_ _));refine blk_far ?_ NB108_110.out _;(with_reducible repeat (first|refine kN ?_ _|refine kD ?_|refine kA ?_ _));refine blk_far ?_ NB108_110.out _;(with_reducible repeat (first|refine kN ?_ _|refine kD ?_|refine kA ?_ _));refine blk_far ?_ NB108_110.out _;(with_reducible repeat (first|refine kN ?_ _|refine kD ?_|refine kA ?_ _));refine blk_far ?_ NB108_110.out _;(with_reducible repeat (first|refine kN ?_ _|refine kD ?_|refine kA ?_ _));exact BK108.out⟩,⟨by repeat (first|(with_reducible first|exact HB.out|apply bA|apply bN|apply bD|refine bS ?_ GE108.out|refine bS ?_ GE110.out)|exact HB.out)⟩⟩
     ·rw [if_neg c6] at H
      exact absurd H (by simp)
    ·rw [if_neg c5] at H
     exact absurd H (by simp)
   ·rw [if_neg c4] at H
    have c4b0 : decide (x14_1 < (l0_0.length : Int)) = false:=decide_eq_false c4
    clear c4
    by_cases c21 : x3_1 = true
    ·subst c21
     have H1 : (some 0) = some r:=by rw [if_pos rfl] at H;exact H
     clear H
     have H:=H1
     clear H1
     obtain rfl:=Option.some.inj H
     go_wp2
     go_ret
     exact ⟨by first|rfl|(simp [errW_none,errW_some] <;> rfl)|(simp [*,errW_none,errW_some] <;> rfl),by repeat (first|(with_reducible first|exact HB.out|apply bA|apply bN|apply bD|refine bS ?_ GE108.out)|exact HB.out)⟩
    ·replace c21:=Bool.eq_false_iff.mpr c21
     subst c21
     have H1 : (some 320) = some r:=by rw [if_neg (show ¬ (false = true) by decide)] at H;exact H
     clear H
     have H:=H1
     clear H1
     obtain rfl:=Option.some.inj H
     go_wp2
     go_ret
     exact ⟨by first|rfl|(simp [errW_none,errW_some] <;> rfl)|(simp [*,errW_none,errW_some] <;> rfl),by repeat (first|(with_reducible first|exact HB.out|apply bA|apply bN|apply bD|refine bS ?_ GE108.out)|exact HB.out)⟩
def model_ready.f (k : Nat) (l0_0 : List (S51)) (a1 : Int) : Option (Int) := (model_Check.f k l0_0).bind fun t113 => (if t113 = 0 then (if a1 < 1 then (some 2) else (if a1 > 3 then (some 2) else (some 0))) else (some 320))
theorem model_ready.mono : ∀ a0 a1 k, LeO (model_ready.f k a0 a1) (model_ready.f (k + 1) a0 a1) := by
  intro a0 a1 k
  unfold model_ready.f
  repeat' first
      | (with_reducible exact model_Check.mono _ _)
      | (with_reducible exact LeO.refl _)
      | (with_reducible exact LeO.none _)
      | (with_reducible refine LeO.ite ?_ ?_)
      | (with_reducible refine LeO.bind ?_ (fun _ => ?_))
      | exact model_Check.mono _ _
      | exact LeO.none _
      | refine LeO.ite ?_ ?_
      | refine LeO.bind ?_ (fun _ => ?_)
set_option maxHeartbeats 8000000 in
set_option maxRecDepth 100000 in
theorem model_ready.calls (k : Nat) (A0_0 : Option Addr) (c0_0 : Nat) (l0_0 : List (S51)) (a1 : Int) (r : Int) (w : World) (hr0_0 : Kd.C k51 w A0_0 l0_0.length l0_0) (hc0_0 : l0_0.length ≤ c0_0) (h : model_ready.f k l0_0 a1 = some r) :
  Calls Try.prog 42 #[.agg #[.slice A0_0 l0_0.length c0_0],.int .i64 a1] w fun e w' => e = .returned (.int .i64 r)∧Below w.heap.size w w':=by
 have hu24:=Try.underlying24
 have HR0_0:=Ak hr0_0
 have HC0_0:=Ak hc0_0
 clear hr0_0 hc0_0
 have HB:=Ak (Below.refl w.heap.size w)
 have H : ((model_Check.f k l0_0).bind fun t113 => (if t113 = 0 then (if a1 < 1 then (some 2) else (if a1 > 3 then (some 2) else (some 0))) else (some 320))) = some r:=h
 clear h
 replace H:=Option.bind_eq_some_iff.mp H
 obtain ⟨t113,A30,H⟩:=H
 replace H : (if t113 = 0 then (if a1 < 1 then (some 2) else (if a1 > 3 then (some 2) else (some 0))) else (some 320)) = some r:=H
 have A3:=Ak A30
 clear A30
 by_cases c4 : t113 = 0
 ·rw [if_pos c4] at H
  have c4b0 : (t113 == 0) = true:=beq_iff_eq.mpr c4
  have c4b1 : (t113 != 0) = false:=bne_eq_false_iff_eq.mpr c4
  clear c4
  by_cases c5 : a1 < 1
  ·rw [if_pos c5] at H
   have c5b0 : decide (a1 < 1) = true:=decide_eq_true c5
   clear c5
   obtain rfl:=Option.some.inj H
   go_enter Try.func42,Try.ntmps42
   go_wp2_with (first|((with_reducible refine gate_dst (N:=2) rfl ?_);refine box_event ?hg (N:=2) ?hd (cs:=#[.slice A0_0 l0_0.length c0_0]) (t:=24) ?hr ?_;(case hd => rfl);(case hg => rfl);(case hr => first|(go_simp;done)|(go_simp;rfl));intro gb112 hg w6 hbox hb;have n0_:=Ak (below_step (by repeat (first|(with_reducible first|exact HB.out|apply bA|apply bN|apply bD)|exact HB.out)) hb);have n1_:=Ak (hbox);have n2_:=Ak ((by rw [hg];exact (below_size (by repeat (first|(with_reducible first|exact HB.out|apply bA|apply bN|apply bD)|exact HB.out))) : w.heap.size ≤ gb112));have n3_:=Ak ((by rw [hg];exact (below_size (by repeat (first|(with_reducible first|exact HB.out|apply bA|apply bN|apply bD)|exact HB.out))) : w.heap.size ≤ gb112));clear HB;have HB:=n0_;have BK112:=n1_;have GW112:=n2_;have GE112:=n3_;clear n0_ n1_ n2_ n3_;clear hb hbox hg;have hcz7_0 : w6.cell? ⟨gb112,0,none⟩ = some (.slice A0_0 l0_0.length c0_0):=(kC BK112.out 0).trans rfl;have hfz7_0:=blk_frozen BK112.out 0)|((with_reducible refine gate_callee (f:=24) rfl ?_);refine goesL_ (some 7) rfl rfl Try.func24 (by kernel_rfl) rfl #[.agg #[.slice A0_0 l0_0.length c0_0]] rfl (by (try simp only [List.map_toArray,List.map_cons,List.map_nil]);first|done|rfl|(simp only [List.length_drop,List.length_take];rfl)) ?_;(with_reducible refine (model_Check.calls k _ _ l0_0 t113 _ ?side1 ?side2 A3.out).mono ?_);(case side1 => repeat (first|exact (Kd.C_below HR0_0.out HB.out)|(with_reducible refine Kd.C_alloc ?_ _)|(with_reducible refine Kd.C_drewN ?_ _)|(with_reducible refine Kd.C_drew ?_)));(case side2 => exact HC0_0.out);rintro e w8 ⟨rfl,hb⟩;refine ⟨_,rfl,?_⟩;have n0_:=Ak (kB (g:=gb112) (o:=.cells #[.slice A0_0 l0_0.length c0_0] 24 (0,0)) (by (with_reducible repeat (first|refine kN ?_ _|refine kD ?_|refine kA ?_ _));exact BK112.out) hb);have n1_:=Ak (below_step (by repeat (first|(with_reducible first|exact HB.out|apply bA|apply bN|apply bD|refine bS ?_ GE112.out)|exact HB.out)) hb);clear BK112;clear HB;have BK112:=n0_;have HB:=n1_;clear n0_ n1_;(try clear hb);(try clear hb2);(try clear hk);(try clear hi)))
   go_ret
   exact ⟨by first|rfl|(simp [errW_none,errW_some] <;> rfl)|(simp [*,errW_none,errW_some] <;> rfl),by repeat (first|(with_reducible first|exact HB.out|apply bA|apply bN|apply bD|refine bS ?_ GE112.out)|exact HB.out)⟩
  ·rw [if_neg c5] at H
   have c5b0 : decide (a1 < 1) = false:=decide_eq_false c5
   clear c5
   by_cases c9 : a1 > 3
   ·rw [if_pos c9] at H
    have c9b0 : decide (3 < a1) = true:=decide_eq_true c9
    clear c9
    obtain rfl:=Option.some.inj H
    go_enter Try.func42,Try.ntmps42
    go_wp2_with (first|((with_reducible refine gate_dst (N:=2) rfl ?_);refine box_event ?hg (N:=2) ?hd (cs:=#[.slice A0_0 l0_0.length c0_0]) (t:=24) ?hr ?_;(case hd => rfl);(case hg => rfl);(case hr => first|(go_simp;done)|(go_simp;rfl));intro gb112 hg w10 hbox hb;have n0_:=Ak (below_step (by repeat (first|(with_reducible first|exact HB.out|apply bA|apply bN|apply bD)|exact HB.out)) hb);have n1_:=Ak (hbox);have n2_:=Ak ((by rw [hg];exact (below_size (by repeat (first|(with_reducible first|exact HB.out|apply bA|apply bN|apply bD)|exact HB.out))) : w.heap.size ≤ gb112));have n3_:=Ak ((by rw [hg];exact (below_size (by repeat (first|(with_reducible first|exact HB.out|apply bA|apply bN|apply bD)|exact HB.out))) : w.heap.size ≤ gb112));clear HB;have HB:=n0_;have BK112:=n1_;have GW112:=n2_;have GE112:=n3_;clear n0_ n1_ n2_ n3_;clear hb hbox hg;have hcz11_0 : w10.cell? ⟨gb112,0,none⟩ = some (.slice A0_0 l0_0.length c0_0):=(kC BK112.out 0).trans rfl;have hfz11_0:=blk_frozen BK112.out 0)|((with_reducible refine gate_callee (f:=24) rfl ?_);refine goesL_ (some 7) rfl rfl Try.func24 (by kernel_rfl) rfl #[.agg #[.slice A0_0 l0_0.length c0_0]] rfl (by (try simp only [List.map_toArray,List.map_cons,List.map_nil]);first|done|rfl|(simp only [List.length_drop,List.length_take];rfl)) ?_;(with_reducible refine (model_Check.calls k _ _ l0_0 t113 _ ?side1 ?side2 A3.out).mono ?_);(case side1 => repeat (first|exact (Kd.C_below HR0_0.out HB.out)|(with_reducible refine Kd.C_alloc ?_ _)|(with_reducible refine Kd.C_drewN ?_ _)|(with_reducible refine Kd.C_drew ?_)));(case side2 => exact HC0_0.out);rintro e w12 ⟨rfl,hb⟩;refine ⟨_,rfl,?_⟩;have n0_:=Ak (kB (g:=gb112) (o:=.cells #[.slice A0_0 l0_0.length c0_0] 24 (0,0)) (by (with_reducible repeat (first|refine kN ?_ _|refine kD ?_|refine kA ?_ _));exact BK112.out) hb);have n1_:=Ak (below_step (by repeat (first|(with_reducible first|exact HB.out|apply bA|apply bN|apply bD|refine bS ?_ GE112.out)|exact HB.out)) hb);clear BK112;clear HB;have BK112:=n0_;have HB:=n1_;clear n0_ n1_;(try clear hb);(try clear hb2);(try clear hk);(try clear hi)))
    go_ret
    exact ⟨by first|rfl|(simp [errW_none,errW_some] <;> rfl)|(simp [*,errW_none,errW_some] <;> rfl),by repeat (first|(with_reducible first|exact HB.out|apply bA|apply bN|apply bD|refine bS ?_ GE112.out)|exact HB.out)⟩
   ·rw [if_neg c9] at H
    have c9b0 : decide (3 < a1) = false:=decide_eq_false c9
    clear c9
    obtain rfl:=Option.some.inj H
    go_enter Try.func42,Try.ntmps42
    go_wp2_with (first|((with_reducible refine gate_dst (N:=2) rfl ?_);refine box_event ?hg (N:=2) ?hd (cs:=#[.slice A0_0 l0_0.length c0_0]) (t:=24) ?hr ?_;(case hd => rfl);(case hg => rfl);(case hr => first|(go_simp;done)|(go_simp;rfl));intro gb112 hg w13 hbox hb;have n0_:=Ak (below_step (by repeat (first|(with_reducible first|exact HB.out|apply bA|apply bN|apply bD)|exact HB.out)) hb);have n1_:=Ak (hbox);have n2_:=Ak ((by rw [hg];exact (below_size (by repeat (first|(with_reducible first|exact HB.out|apply bA|apply bN|apply bD)|exact HB.out))) : w.heap.size ≤ gb112));have n3_:=Ak ((by rw [hg];exact (below_size (by repeat (first|(with_reducible first|exact HB.out|apply bA|apply bN|apply bD)|exact HB.out))) : w.heap.size ≤ gb112));clear HB;have HB:=n0_;have BK112:=n1_;have GW112:=n2_;have GE112:=n3_;clear n0_ n1_ n2_ n3_;clear hb hbox hg;have hcz14_0 : w13.cell? ⟨gb112,0,none⟩ = some (.slice A0_0 l0_0.length c0_0):=(kC BK112.out 0).trans rfl;have hfz14_0:=blk_frozen BK112.out 0)|((with_reducible refine gate_callee (f:=24) rfl ?_);refine goesL_ (some 7) rfl rfl Try.func24 (by kernel_rfl) rfl #[.agg #[.slice A0_0 l0_0.length c0_0]] rfl (by (try simp only [List.map_toArray,List.map_cons,List.map_nil]);first|done|rfl|(simp only [List.length_drop,List.length_take];rfl)) ?_;(with_reducible refine (model_Check.calls k _ _ l0_0 t113 _ ?side1 ?side2 A3.out).mono ?_);(case side1 => repeat (first|exact (Kd.C_below HR0_0.out HB.out)|(with_reducible refine Kd.C_alloc ?_ _)|(with_reducible refine Kd.C_drewN ?_ _)|(with_reducible refine Kd.C_drew ?_)));(case side2 => exact HC0_0.out);rintro e w15 ⟨rfl,hb⟩;refine ⟨_,rfl,?_⟩;have n0_:=Ak (kB (g:=gb112) (o:=.cells #[.slice A0_0 l0_0.length c0_0] 24 (0,0)) (by (with_reducible repeat (first|refine kN ?_ _|refine kD ?_|refine kA ?_ _));exact BK112.out) hb);have n1_:=Ak (below_step (by repeat (first|(with_reducible first|exact HB.out|apply bA|apply bN|apply bD|refine bS ?_ GE112.out)|exact HB.out)) hb);clear BK112;clear HB;have BK112:=n0_;have HB:=n1_;clear n0_ n1_;(try clear hb);(try clear hb2);(try clear hk);(try clear hi)))
    go_ret
    exact ⟨by first|rfl|(simp [errW_none,errW_some] <;> rfl)|(simp [*,errW_none,errW_some] <;> rfl),by repeat (first|(with_reducible first|exact HB.out|apply bA|apply bN|apply bD|refine bS ?_ GE112.out)|exact HB.out)⟩
 ·rw [if_neg c4] at H
  have c4b0 : (t113 == 0) = false:=beq_eq_false_iff_ne.mpr c4
  have c4b1 : (t113 != 0) = true:=bne_iff_ne.mpr c4
  obtain rfl:=Option.some.inj H
  go_enter Try.func42,Try.ntmps42
  go_wp2_with (first|((with_reducible refine gate_dst (N:=2) rfl ?_);refine box_event ?hg (N:=2) ?hd (cs:=#[.slice A0_0 l0_0.length c0_0]) (t:=24) ?hr ?_;(case hd => rfl);(case hg => rfl);(case hr => first|(go_simp;done)|(go_simp;rfl));intro gb112 hg w16 hbox hb;have n0_:=Ak (below_step (by repeat (first|(with_reducible first|exact HB.out|apply bA|apply bN|apply bD)|exact HB.out)) hb);have n1_:=Ak (hbox);have n2_:=Ak ((by rw [hg];exact (below_size (by repeat (first|(with_reducible first|exact HB.out|apply bA|apply bN|apply bD)|exact HB.out))) : w.heap.size ≤ gb112));have n3_:=Ak ((by rw [hg];exact (below_size (by repeat (first|(with_reducible first|exact HB.out|apply bA|apply bN|apply bD)|exact HB.out))) : w.heap.size ≤ gb112));clear HB;have HB:=n0_;have BK112:=n1_;have GW112:=n2_;have GE112:=n3_;clear n0_ n1_ n2_ n3_;clear hb hbox hg;have hcz17_0 : w16.cell? ⟨gb112,0,none⟩ = some (.slice A0_0 l0_0.length c0_0):=(kC BK112.out 0).trans rfl;have hfz17_0:=blk_frozen BK112.out 0)|((with_reducible refine gate_callee (f:=24) rfl ?_);refine goesL_ (some 7) rfl rfl Try.func24 (by kernel_rfl) rfl #[.agg #[.slice A0_0 l0_0.length c0_0]] rfl (by (try simp only [List.map_toArray,List.map_cons,List.map_nil]);first|done|rfl|(simp only [List.length_drop,List.length_take];rfl)) ?_;(with_reducible refine (model_Check.calls k _ _ l0_0 t113 _ ?side1 ?side2 A3.out).mono ?_);(case side1 => repeat (first|exact (Kd.C_below HR0_0.out HB.out)|(with_reducible refine Kd.C_alloc ?_ _)|(with_reducible refine Kd.C_drewN ?_ _)|(with_reducible refine Kd.C_drew ?_)));(case side2 => exact HC0_0.out);rintro e w18 ⟨rfl,hb⟩;refine ⟨_,rfl,?_⟩;have n0_:=Ak (kB (g:=gb112) (o:=.cells #[.slice A0_0 l0_0.length c0_0] 24 (0,0)) (by (with_reducible repeat (first|refine kN ?_ _|refine kD ?_|refine kA ?_ _));exact BK112.out) hb);have n1_:=Ak (below_step (by repeat (first|(with_reducible first|exact HB.out|apply bA|apply bN|apply bD|refine bS ?_ GE112.out)|exact HB.out)) hb);clear BK112;clear HB;have BK112:=n0_;have HB:=n1_;clear n0_ n1_;(try clear hb);(try clear hb2);(try clear hk);(try clear hi)))
  go_ret
  exact ⟨by first|rfl|(simp [errW_none,errW_some] <;> rfl)|(simp [*,errW_none,errW_some] <;> rfl),by repeat (first|(with_reducible first|exact HB.out|apply bA|apply bN|apply bD|refine bS ?_ GE112.out)|exact HB.out)⟩
end Go.Proofs.Ytknlbfandkmeiaa.M
end
section
namespace Go.Proofs.Ytknlbfandkmeiaa.M
open Go.RowKit Go.Proofs.YtknlbfandkmeiaaW.PrintWords Go.Proofs.YtknlbfandkmeiaaW.PrintLast Go.Proofs.YtknlbfandkmeiaaW.PrintMore
attribute [local go_sem] max2_int min2_int max_two min_two max_three min_three max_four min_four   -- for this text's walks alone
attribute [local go_sem] eql_none_nil eql_some_nil
set_option maxRecDepth 100000 in
theorem info51_ : (Try.prog.info? 51).map (fun i => (i.zero, i.size, i.bytes)) = some (some (.agg #[(.int .u32 0), (.int .i64 0), (.int .i64 0), (.int .i64 0), (.int .i64 0), (.int .i64 0)]), k51.sz, 48) := by kernel_rfl
def api_Row_43.f (l0 : List (S51)) : Option (List (S51)) := if l0.length ≤ 1000 then some l0 else none
set_option maxHeartbeats 2000000 in
theorem api_Row_43.calls (A0 : Option Addr) (c0 : Nat) (l0 : List (S51)) (r : List (S51)) (w : World) (hr0 : Kd.C k51 w A0 l0.length l0) (hc0 : l0.length ≤ c0) (h : api_Row_43.f l0 = some r) :
  Calls Try.prog 43 #[.slice A0 l0.length c0] w fun e w' => ∃ v0_ : Value,e = .returned (v0_)∧Kd.R k51 51 w' w.heap.size (fun _ => True) v0_ r∧Below w.heap.size w w':=by
 unfold api_Row_43.f at h
 by_cases hn : l0.length ≤ 1000
 case neg => rw [if_neg hn] at h;cases h
 rw [if_pos hn] at h
 injection h with h
 subst h
 have hu_:=Try.underlying22
 cases A0 with
 | none =>
  have h0 : l0 = []:=by
   rcases l0 with _|⟨x,l⟩
   ·rfl
   ·obtain ⟨ad,e,_⟩:=hr0.2.2 (by simp)
    cases e
  subst h0
  go_enter Try.func43,Try.ntmps43
  go_wp2
  refine bodyPost_ret (v:=.slice none 0 0) (by simp [results,Try.results43,go_sem, *]) rfl ⟨_,rfl,Kd.R_nil _ _ _ _ _,Below.refl _ _⟩
 | some ad =>
  have HC:=Ak hr0
  clear hr0
  go_enter Try.func43,Try.ntmps43
  go_wp2_with (first
   | ((with_reducible refine gate_dst (N:=5) rfl ?_);refine Kd.R_lit k51 _ 51 ?hg (N:=5) ?hd (xs:=([] : List (S51))) (inner:=[]) (ok:=fun _ => True) (okp:=fun _ => True) ?hr ?hp (fun _ hk => hk) trivial (Below.refl _ _) (Nat.le_refl _) (by simp) ?_;(case hd => rfl);(case hg => rfl);(case hr => first|(go_simp;done)|(go_simp;rfl));(case hp => exact (Reps.none _ _));intro v128 w5 ho6 hb5 hg_ hnew_;have HO:=Ak ho6;have HB:=Ak hb5;clear ho6 hb5)
   | ((with_reducible refine gate_builtin (b:=.append) (xs:=#[.tmp 5,.tmp 6]) rfl ?_);at_builtin;refine Kd.R_append_rows k51 (w0:=w) w.heap.size rfl (.tmp 5) (.tmp 6) 22 51 (.agg #[(.int .u32 0),(.int .i64 0),(.int .i64 0),(.int .i64 0),(.int .i64 0),(.int .i64 0)]) 48 rfl Try.underlying22 info51_ rfl (by decide) (by omega) v128 [] l0 _ _ _ (fun _ => True) (fun _ => False) rfl rfl ?aO ?aR (fun _ _ h => h) (fun _ h => h.elim) ?aF ?aB ?aS ?aL ?_;(case aR => exact Kd.C_below HC.out HB.out);(case aB => exact HB.out);(case aF => exact (fun _ _ => trivial));(case aO => exact HO.out);(case aS => exact HB.out.size);(case aL => simp;omega);intro v131 w9 ho hb9 hg hat))
  refine bodyPost_ret (v:=v131) (by simp [results,Try.results43,go_sem, *]) rfl ⟨_,rfl,ho,hb9⟩
end Go.Proofs.Ytknlbfandkmeiaa.M
end
