/- What the row of this claim reaches. No condition. -/
import Derived.Test.YtknlbfandkmeiaaZX1
set_option linter.unusedVariables false
set_option linter.unusedSimpArgs false
section
namespace Go.Proofs.Ytknlbfandkmeiaa.M
open Go.RowKit Go.Proofs.YtknlbfandkmeiaaW.PrintWords Go.Proofs.YtknlbfandkmeiaaW.PrintLast Go.Proofs.YtknlbfandkmeiaaW.PrintMore
attribute [local go_sem] max2_int min2_int max_two min_two max_three min_three max_four min_four   -- for this text's walks alone
def gazetteerref22_Right.l0 : Nat → List (S51) → Int → Int → List (S51) → Option (Bool)
  | 0, _, _, _, _ => none
  | k + 1, x6, x7, x8, x165000 => if x8 < x7 then (if 0 ≤ x8 then (if x8 < (x6.length : Int) then (if ((rd_T51 x6 x8).f0) = 0 then (some false) else (if x8 > 0 then (if 0 ≤ (wrap64 (x8 - 1)) then (if (wrap64 (x8 - 1)) < (x165000.length : Int) then (if ((rd_T51 x165000 (wrap64 (x8 - 1))).f0) ≥ ((rd_T51 x6 x8).f0) then (some false) else ((gazetteerref09_Box.f ((rd_T51 x6 x8).f1.f0) ((rd_T51 x6 x8).f1.f1) ((rd_T51 x6 x8).f1.f2) ((rd_T51 x6 x8).f1.f3)).bind fun t168 => (if t168 = true then (gazetteerref22_Right.l0 k x6 x7 (wrap64 (x8 + 1)) x165000) else (some false)))) else (none)) else (none)) else ((gazetteerref09_Box.f ((rd_T51 x6 x8).f1.f0) ((rd_T51 x6 x8).f1.f1) ((rd_T51 x6 x8).f1.f2) ((rd_T51 x6 x8).f1.f3)).bind fun t169 => (if t169 = true then (gazetteerref22_Right.l0 k x6 x7 (wrap64 (x8 + 1)) x165000) else (some false))))) else (none)) else (none)) else (some (decide ((x165000.length : Int) ≤ 128)))
def gazetteerref22_Right.f (k : Nat) (l0_0 : List (S51)) : Option (Bool) := gazetteerref22_Right.l0 k l0_0 (l0_0.length : Int) 0 l0_0
def gazetteerref22_Right.T4 : Bool × List (List Nat × List Nat) := (true, [([], []), ([0], [0]), ([1], [1]), ([2], [2]), ([3], [3]), ([4, 3], [3, 4]), ([5, 3, 3], [3, 5]), ([6], [6]), ([7, 6], [6, 7]), ([6], [6]), ([9, 6], [6, 9]), ([8, 10, 6], [6, 8, 10]), ([11, 6], [6, 11]), ([12, 6], [6, 12]), ([6], [6]), ([14, 6], [6, 14]), ([13, 15, 6], [6, 13, 15]), ([6, 16, 3], [3, 6, 16]), ([3, 17], [3, 17]), ([18, 6], [18]), ([19], [19]), ([20, 19], [19, 20]), ([21, 19, 19], [19, 21]), ([22, 19], [19, 22]), ([19, 23], [19, 23])])
def gazetteerref22_Right.B4 : List Nat := [0, 1, 3, 7, 15, 31, 63, 127, 255, 127, 639, 2047, 4095, 8191, 127, 16511, 65535, 131071, 262143, 524287, 1048575, 2097151, 4194303, 8388607, 16777215]
theorem gazetteerref22_Right.tab4 : rtab .any (opsOf Try.f16 4) = gazetteerref22_Right.T4 := by kernel_rfl
theorem gazetteerref22_Right.bits4 : waitsOk gazetteerref22_Right.T4.2 gazetteerref22_Right.B4 = true := by kernel_rfl
set_option maxHeartbeats 8000000 in
set_option maxRecDepth 100000 in
theorem gazetteerref22_Right.calls (k : Nat) (A0_0 : Option Addr) (c0_0 : Nat) (l0_0 : List (S51)) (r : Bool) (w : World) (hr0_0 : Kd.C k51 w A0_0 l0_0.length l0_0) (hc0_0 : l0_0.length ≤ c0_0) (h : gazetteerref22_Right.f k l0_0 = some r) :
  Calls Try.prog 16 #[.agg #[.slice A0_0 l0_0.length c0_0]] w fun e w' => e = .returned (.bool r)∧Below w.heap.size w w':=by
 have hu24:=Try.underlying24
 have hu51:=Try.underlying51
 have hu36:=Try.underlying36
 have HR0_0:=Ak hr0_0
 have HC0_0:=Ak hc0_0
 clear hr0_0 hc0_0
 have HB:=Ak (Below.refl w.heap.size w)
 have H : (gazetteerref22_Right.l0 k l0_0 (l0_0.length : Int) 0 l0_0) = some r:=h
 clear h
 have H':=Ak H
 clear H
 go_enter Try.func16,Try.ntmps16
 go_wp2_with (first|((with_reducible refine gate_dst (N:=1) rfl ?_);refine box_event ?hg (N:=1) ?hd (cs:=#[.slice A0_0 l0_0.length c0_0]) (t:=24) ?hr ?_;(case hd => rfl);(case hg => rfl);(case hr => first|(go_simp;done)|(go_simp;rfl));intro gb164 hg w2 hbox hb;have n0_:=Ak (below_step (by repeat (first|(with_reducible first|exact HB.out|apply bA|apply bN|apply bD)|exact HB.out)) hb);have n1_:=Ak (hbox);have n2_:=Ak ((by rw [hg];exact (below_size (by repeat (first|(with_reducible first|exact HB.out|apply bA|apply bN|apply bD)|exact HB.out))) : w.heap.size ≤ gb164));have n3_:=Ak ((by rw [hg];exact (below_size (by repeat (first|(with_reducible first|exact HB.out|apply bA|apply bN|apply bD)|exact HB.out))) : w.heap.size ≤ gb164));clear HB;have HB:=n0_;have BK164:=n1_;have GW164:=n2_;have GE164:=n3_;clear n0_ n1_ n2_ n3_;clear hb hbox hg;have hcz3_0 : w2.cell? ⟨gb164,0,none⟩ = some (.slice A0_0 l0_0.length c0_0):=(kC BK164.out 0).trans rfl;have hfz3_0:=blk_frozen BK164.out 0))
 go_loopg [8] k (fun kq v8 w' => ∃ (x8_1 : Int),v8 = .int .i64 x8_1∧Aside0 (gazetteerref22_Right.l0 kq l0_0 (l0_0.length : Int) x8_1 l0_0 = some r)∧Aside0 (kq ≤ k)∧Aside0 (w'.heap[gb164]? = some (.cells #[(.slice A0_0 l0_0.length c0_0)] 24 (0,0)))∧Aside0 (Below w.heap.size w w'))
 case atStart => exact ⟨(0),(by first|rfl|(simp;done)|(simp [*];done)),H',⟨Nat.le_refl _⟩,⟨by (with_reducible repeat (first|refine kN ?_ _|refine kD ?_|refine kA ?_ _));exact BK164.out⟩,⟨by repeat (first|(with_reducible first|exact HB.out|apply bA|apply bN|apply bD|refine bS ?_ GE164.out)|exact HB.out)⟩⟩
 case round =>
  clear H'
  try clear c1
  try clear p2
  try clear hcz3_0
  try clear hfz3_0
  obtain ⟨x8_1,rfl,HA,HK1,BK164,HB⟩:=hrel
  cases gk with
  | zero => exact absurd HA.out (by simp [gazetteerref22_Right.l0])
  | succ k1 =>
   have H:=HA.out
   clear HA
   simp only [gazetteerref22_Right.l0] at H
   by_cases c4 : x8_1 < (l0_0.length : Int)
   ·rw [if_pos c4] at H
    have c4b0 : decide (x8_1 < (l0_0.length : Int)) = true:=decide_eq_true c4
    clear c4
    by_cases c5 : 0 ≤ x8_1
    ·rw [if_pos c5] at H
     have c5b0 : decide (0 ≤ x8_1) = true:=decide_eq_true c5
     clear c5
     by_cases c6 : x8_1 < (l0_0.length : Int)
     ·rw [if_pos c6] at H
      have c6b0 : decide (x8_1 < (l0_0.length : Int)) = true:=decide_eq_true c6
      clear c6
      by_cases c7 : ((rd_T51 l0_0 x8_1).f0) = 0
      ·rw [if_pos c7] at H
       have c7b0 : (((rd_T51 l0_0 x8_1).f0) == 0) = true:=beq_iff_eq.mpr c7
       have c7b1 : (((rd_T51 l0_0 x8_1).f0) != 0) = false:=bne_eq_false_iff_eq.mpr c7
       clear c7
       obtain rfl:=Option.some.inj H
       have p165 : 0 ≤ (x8_1 : Int):=of_decide_eq_true (by first|(with_reducible assumption)|assumption)
       have q165 : x8_1 < (l0_0.length : Int):=of_decide_eq_true (by first|(with_reducible assumption)|assumption)
       obtain ⟨ad165,e165,hx165_0,hx165_1,hx165_2,hx165_3,hx165_4,hx165_5⟩:=at_T51 HR0_0.out x8_1 p165 q165
       cases e165
       replace hx165_0:=(HB.out.cell (World.block_lt_of_cell? w _ hx165_0)).trans hx165_0
       replace hx165_1:=(HB.out.cell (World.block_lt_of_cell? w _ hx165_1)).trans hx165_1
       replace hx165_2:=(HB.out.cell (World.block_lt_of_cell? w _ hx165_2)).trans hx165_2
       replace hx165_3:=(HB.out.cell (World.block_lt_of_cell? w _ hx165_3)).trans hx165_3
       replace hx165_4:=(HB.out.cell (World.block_lt_of_cell? w _ hx165_4)).trans hx165_4
       replace hx165_5:=(HB.out.cell (World.block_lt_of_cell? w _ hx165_5)).trans hx165_5
       replace p165:=eq_true p165
       replace q165:=eq_true q165
       try go_wp2_with (first|((with_reducible refine gate_dst (N:=4) rfl ?_);refine box_event ?hg (N:=4) ?hd (cs:=#[.int .u32 0,.int .i64 0,.int .i64 0,.int .i64 0,.int .i64 0,.int .i64 0]) (t:=51) ?hr ?_;(case hd => rfl);(case hg => rfl);(case hr => first|(go_simp;done)|(go_simp;rfl));intro gb166 hg w8 hbox hb;have n0_:=Ak (kB (g:=gb164) (o:=.cells #[.slice (some ad165) l0_0.length c0_0] 24 (0,0)) (by (with_reducible repeat (first|refine kN ?_ _|refine kD ?_|refine kA ?_ _));exact BK164.out) hb);have n1_:=Ak (below_step (by repeat (first|(with_reducible first|exact HB.out|apply bA|apply bN|apply bD|refine bS ?_ GE164.out)|exact HB.out)) hb);have n2_:=Ak (hbox);have n3_:=Ak ((by rw [hg];exact (below_size (by repeat (first|(with_reducible first|exact HB.out|apply bA|apply bN|apply bD|refine bS ?_ GE164.out)|exact HB.out))) : w.heap.size ≤ gb166));have n4_:=Ak ((by rw [hg];exact (below_size (by repeat (first|(with_reducible first|exact HB.out|apply bA|apply bN|apply bD|refine bS ?_ GE164.out)|exact HB.out))) : w.heap.size ≤ gb166));have n5_:=Ak ((by rw [hg];exact Nat.ne_of_lt (blk_lt (g:=gb164) (o:=.cells #[.slice (some ad165) l0_0.length c0_0] 24 (0,0)) (by (with_reducible repeat (first|refine kN ?_ _|refine kD ?_|refine kA ?_ _));exact BK164.out)) : gb164 ≠ gb166));have n6_:=Ak ((by rw [hg];exact Nat.ne_of_gt (blk_lt (g:=gb164) (o:=.cells #[.slice (some ad165) l0_0.length c0_0] 24 (0,0)) (by (with_reducible repeat (first|refine kN ?_ _|refine kD ?_|refine kA ?_ _));exact BK164.out)) : gb166 ≠ gb164));clear BK164;clear HB;have BK164:=n0_;have HB:=n1_;have BK166:=n2_;have GW166:=n3_;have GE166:=n4_;have NB164_166:=n5_;have NB166_164:=n6_;clear n0_ n1_ n2_ n3_ n4_ n5_ n6_;clear hb hbox hg;have hnb9:=NB166_164.out;have hnc9:=NB164_166.out;have hcz10_0 : w8.cell? ⟨gb166,0,none⟩ = some (.int .u32 0):=(kC BK166.out 0).trans rfl;have hcz10_1 : w8.cell? ⟨gb166,1,none⟩ = some (.int .i64 0):=(kC BK166.out 1).trans rfl;have hcz10_2 : w8.cell? ⟨gb166,2,none⟩ = some (.int .i64 0):=(kC BK166.out 2).trans rfl;have hcz10_3 : w8.cell? ⟨gb166,3,none⟩ = some (.int .i64 0):=(kC BK166.out 3).trans rfl;have hcz10_4 : w8.cell? ⟨gb166,4,none⟩ = some (.int .i64 0):=(kC BK166.out 4).trans rfl;have hcz10_5 : w8.cell? ⟨gb166,5,none⟩ = some (.int .i64 0):=(kC BK166.out 5).trans rfl;have hfz10_0:=blk_frozen BK166.out 0;have hfz10_1:=blk_frozen BK166.out 1;have hfz10_2:=blk_frozen BK166.out 2;have hfz10_3:=blk_frozen BK166.out 3;have hfz10_4:=blk_frozen BK166.out 4;have hfz10_5:=blk_frozen BK166.out 5))
       have n0_ : Aside0 (((((((w8.setCell ⟨gb166,0,none⟩ (.int .u32 ((rd_T51 l0_0 x8_1).f0))).setCell ⟨gb166,1,none⟩ (.int .i64 ((rd_T51 l0_0 x8_1).f1.f0))).setCell ⟨gb166,2,none⟩ (.int .i64 ((rd_T51 l0_0 x8_1).f1.f1))).setCell ⟨gb166,3,none⟩ (.int .i64 ((rd_T51 l0_0 x8_1).f1.f2))).setCell ⟨gb166,4,none⟩ (.int .i64 ((rd_T51 l0_0 x8_1).f1.f3))).setCell ⟨gb166,5,none⟩ (.int .i64 ((rd_T51 l0_0 x8_1).f2))).heap[gb164]? = some (.cells #[.slice (some ad165) l0_0.length c0_0] 24 (0,0))):=⟨by (with_reducible repeat (first|refine kN ?_ _|refine kD ?_|refine kA ?_ _));refine blk_far ?_ NB164_166.out _;(with_reducible repeat (first|refine kN ?_ _|refine kD ?_|refine kA ?_ _));refine blk_far ?_ NB164_166.out _;(with_reducible repeat (first|refine kN ?_ _|refine kD ?_|refine kA ?_ _));refine blk_far ?_ NB164_166.out _;(with_reducible repeat (first|refine kN ?_ _|refine kD ?_|refine kA ?_ _));refine blk_far ?_ NB164_166.out _;(with_reducible repeat (first|refine kN ?_ _|refine kD ?_|refine kA ?_ _));refine blk_far ?_ NB164_166.out _;(with_reducible repeat (first|refine kN ?_ _|refine kD ?_|refine kA ?_ _));refine blk_far ?_ NB164_166.out _;(with_reducible repeat (first|refine kN ?_ _|refine kD ?_|refine kA ?_ _));exact BK164.out⟩
       have n1_ : Aside0 (((((((w8.setCell ⟨gb166,0,none⟩ (.int .u32 ((rd_T51 l0_0 x8_1).f0))).setCell ⟨gb166,1,none⟩ (.int .i64 ((rd_T51 l0_0 x8_1).f1.f0))).setCell ⟨gb166,2,none⟩ (.int .i64 ((rd_T51 l0_0 x8_1).f1.f1))).setCell ⟨gb166,3,none⟩ (.int .i64 ((rd_T51 l0_0 x8_1).f1.f2))).setCell ⟨gb166,4,none⟩ (.int .i64 ((rd_T51 l0_0 x8_1).f1.f3))).setCell ⟨gb166,5,none⟩ (.int .i64 ((rd_T51 l0_0 x8_1).f2))).heap[gb166]? = some (.cells #[.int .u32 ((rd_T51 l0_0 x8_1).f0),.int .i64 ((rd_T51 l0_0 x8_1).f1.f0),.int .i64 ((rd_T51 l0_0 x8_1).f1.f1),.int .i64 ((rd_T51 l0_0 x8_1).f1.f2),.int .i64 ((rd_T51 l0_0 x8_1).f1.f3),.int .i64 ((rd_T51 l0_0 x8_1).f2)] 51 (0,0))):=⟨by (with_reducible repeat (first|refine kN ?_ _|refine kD ?_|refine kA ?_ _));refine blk_put (cs:=#[.int .u32 ((rd_T51 l0_0 x8_1).f0),.int .i64 ((rd_T51 l0_0 x8_1).f1.f0),.int .i64 ((rd_T51 l0_0 x8_1).f1.f1),.int .i64 ((rd_T51 l0_0 x8_1).f1.f2),.int .i64 ((rd_T51 l0_0 x8_1).f1.f3),.int .i64 0]) ?_ 5 _ rfl;(with_reducible repeat (first|refine kN ?_ _|refine kD ?_|refine kA ?_ _));refine blk_put (cs:=#[.int .u32 ((rd_T51 l0_0 x8_1).f0),.int .i64 ((rd_T51 l0_0 x8_1).f1.f0),.int .i64 ((rd_T51 l0_0 x8_1).f1.f1),.int .i64 ((rd_T51 l0_0 x8_1).f1.f2),.int .i64 0,.int .i64 0]) ?_ 4 _ rfl;(with_reducible repeat (first|refine kN ?_ _|refine kD ?_|refine kA ?_ _));refine blk_put (cs:=#[.int .u32 ((rd_T51 l0_0 x8_1).f0),.int .i64 ((rd_T51 l0_0 x8_1).f1.f0),.int .i64 ((rd_T51 l0_0 x8_1).f1.f1),.int .i64 0,.int .i64 0,.int .i64 0]) ?_ 3 _ rfl;(with_reducible repeat (first|refine kN ?_ _|refine kD ?_|refine kA ?_ _));refine blk_put (cs:=#[.int .u32 ((rd_T51 l0_0 x8_1).f0),.int .i64 ((rd_T51 l0_0 x8_1).f1.f0),.int .i64 0,.int .i64 0,.int .i64 0,.int .i64 0]) ?_ 2 _ rfl;(with_reducible repeat (first|refine kN ?_ _|refine kD ?_|refine kA ?_ _));refine blk_put (cs:=#[.int .u32 ((rd_T51 l0_0 x8_1).f0),.int .i64 0,.int .i64 0,.int .i64 0,.int .i64 0,.int .i64 0]) ?_ 1 _ rfl;(with_reducible repeat (first|refine kN ?_ _|refine kD ?_|refine kA ?_ _));refine blk_put (cs:=#[.int .u32 0,.int .i64 0,.int .i64 0,.int .i64 0,.int .i64 0,.int .i64 0]) ?_ 0 _ rfl;(with_reducible repeat (first|refine kN ?_ _|refine kD ?_|refine kA ?_ _));exact BK166.out⟩
       have n2_ : Aside0 (Below w.heap.size w ((((((w8.setCell ⟨gb166,0,none⟩ (.int .u32 ((rd_T51 l0_0 x8_1).f0))).setCell ⟨gb166,1,none⟩ (.int .i64 ((rd_T51 l0_0 x8_1).f1.f0))).setCell ⟨gb166,2,none⟩ (.int .i64 ((rd_T51 l0_0 x8_1).f1.f1))).setCell ⟨gb166,3,none⟩ (.int .i64 ((rd_T51 l0_0 x8_1).f1.f2))).setCell ⟨gb166,4,none⟩ (.int .i64 ((rd_T51 l0_0 x8_1).f1.f3))).setCell ⟨gb166,5,none⟩ (.int .i64 ((rd_T51 l0_0 x8_1).f2)))):=⟨by repeat (first|(with_reducible first|exact HB.out|apply bA|apply bN|apply bD|refine bS ?_ GE164.out|refine bS ?_ GE166.out)|exact HB.out)⟩
       (try clear BK164)
       (try clear BK166)
       (try clear HB)
       generalize ((((((w8.setCell ⟨gb166,0,none⟩ (.int .u32 ((rd_T51 l0_0 x8_1).f0))).setCell ⟨gb166,1,none⟩ (.int .i64 ((rd_T51 l0_0 x8_1).f1.f0))).setCell ⟨gb166,2,none⟩ (.int .i64 ((rd_T51 l0_0 x8_1).f1.f1))).setCell ⟨gb166,3,none⟩ (.int .i64 ((rd_T51 l0_0 x8_1).f1.f2))).setCell ⟨gb166,4,none⟩ (.int .i64 ((rd_T51 l0_0 x8_1).f1.f3))).setCell ⟨gb166,5,none⟩ (.int .i64 ((rd_T51 l0_0 x8_1).f2))) = w11 at n0_ n1_ n2_ ⊢
       have BK164:=n0_
       have BK166:=n1_
       have HB:=n2_
       clear n0_ n1_ n2_
       have n0_:=Ak (kD BK164.out)
       have n1_:=Ak (kD BK166.out)
       have n2_:=Ak (bD HB.out)
       clear BK164
       clear BK166
       clear HB
       have BK164:=n0_
       have BK166:=n1_
       have HB:=n2_
       clear n0_ n1_ n2_
       refine start_ (n:=25) (S:=fun w' => w'.cell? ⟨gb166,0,none⟩ = some (.int .u32 ((rd_T51 l0_0 x8_1).f0))∧w'.cell? ⟨gb166,1,none⟩ = some (.int .i64 ((rd_T51 l0_0 x8_1).f1.f0))∧w'.cell? ⟨gb166,2,none⟩ = some (.int .i64 ((rd_T51 l0_0 x8_1).f1.f1))∧w'.cell? ⟨gb166,3,none⟩ = some (.int .i64 ((rd_T51 l0_0 x8_1).f1.f2))∧w'.cell? ⟨gb166,4,none⟩ = some (.int .i64 ((rd_T51 l0_0 x8_1).f1.f3))∧w'.cell? ⟨gb166,5,none⟩ = some (.int .i64 ((rd_T51 l0_0 x8_1).f2))) (ds:=[]) #[ff,ff,ff,ff,ff,ff,ff,ff,ff,ff,ff,ff,ff,ff,ff,ff,ff,ff,ff,ff,ff,ff,ff,ff,ff] (by kernel_rfl) rfl rfl ⟨(kC BK166.out 0).trans rfl,(kC BK166.out 1).trans rfl,(kC BK166.out 2).trans rfl,(kC BK166.out 3).trans rfl,(kC BK166.out 4).trans rfl,(kC BK166.out 5).trans rfl⟩ (fun hHeld => ?_);refine with_tabW gazetteerref22_Right.tab4 gazetteerref22_Right.bits4 (fun HT_ HW_ => ?_)
       generalize w11.drew = w12 at BK164 BK166 HB hHeld ⊢
       refine pure_ (i:=0) (N:=some 13) (v:=?_) (a':=?_) #[tt,ff,ff,ff,ff,ff,ff,ff,ff,ff,ff,ff,ff,ff,ff,ff,ff,ff,ff,ff,ff,ff,ff,ff,ff] rfl rfl (any_of HT_.out (by kernel_rfl)) (fun _ _ _ h => h) (Or.inl ⟨by rfl,?_⟩) ?_ ?_
       rotate_left
       ·intro w'
        go_simp
        with_reducible rfl
       rotate_left
       ·simp only [Act.put,sA,sZ,sS,i64_w,i32_w]
        rfl
       refine take_ (i:=1) (N:=some 14) (v:=?_) (a':=?_) #[tt,tt,ff,ff,ff,ff,ff,ff,ff,ff,ff,ff,ff,ff,ff,ff,ff,ff,ff,ff,ff,ff,ff,ff,ff] rfl rfl (take_ofW HT_.out HW_.out (by kernel_rfl)) (fun _ _ _ h => h) (Or.inl ⟨by rfl,?_⟩) hHeld ?_ ?_
       rotate_left
       ·rintro w' ⟨s0,s1,s2,s3,s4,s5⟩
        go_simp
        with_reducible rfl
       rotate_left
       ·simp only [Act.put,sA,sZ,sS,i64_w,i32_w]
        rfl
       refine pure_ (i:=2) (N:=some 15) (v:=?_) (a':=?_) #[tt,tt,tt,ff,ff,ff,ff,ff,ff,ff,ff,ff,ff,ff,ff,ff,ff,ff,ff,ff,ff,ff,ff,ff,ff] rfl rfl (any_of HT_.out (by kernel_rfl)) (fun _ _ _ h => h) (Or.inl ⟨by rfl,?_⟩) ?_ ?_
       rotate_left
       ·intro w'
        go_simp
        with_reducible rfl
       rotate_left
       ·simp only [Act.put,sA,sZ,sS,i64_w,i32_w]
        rfl
       refine pure_ (i:=3) (N:=some 16) (v:=?_) (a':=?_) #[tt,tt,tt,tt,ff,ff,ff,ff,ff,ff,ff,ff,ff,ff,ff,ff,ff,ff,ff,ff,ff,ff,ff,ff,ff] rfl rfl (any_of HT_.out (by kernel_rfl)) (fun _ _ _ h => h) (Or.inl ⟨by rfl,?_⟩) ?_ ?_
       rotate_left
       ·intro w'
        go_simp
        with_reducible rfl
       rotate_left
       ·simp only [Act.put,sA,sZ,sS,i64_w,i32_w]
        rfl
       refine pure_ (i:=4) (N:=some 17) (v:=undef) (a':=?_) #[tt,tt,tt,tt,tt,ff,ff,ff,ff,ff,ff,ff,ff,ff,ff,ff,ff,ff,ff,ff,ff,ff,ff,ff,ff] rfl rfl (any_of HT_.out (by kernel_rfl)) (fun _ _ _ h => h) (Or.inr ⟨by rfl,rfl⟩) ?_ ?_
       rotate_left
       ·simp only [Act.put,sA,sZ,sS,i64_w,i32_w]
        rfl
       refine pure_ (i:=5) (N:=some 18) (v:=undef) (a':=?_) #[tt,tt,tt,tt,tt,tt,ff,ff,ff,ff,ff,ff,ff,ff,ff,ff,ff,ff,ff,ff,ff,ff,ff,ff,ff] rfl rfl (any_of HT_.out (by kernel_rfl)) (fun _ _ _ h => h) (Or.inr ⟨by rfl,rfl⟩) ?_ ?_
       rotate_left
       ·simp only [Act.put,sA,sZ,sS,i64_w,i32_w]
        rfl
       refine pure_ (i:=6) (N:=some 19) (v:=undef) (a':=?_) #[tt,tt,tt,tt,tt,tt,tt,ff,ff,ff,ff,ff,ff,ff,ff,ff,ff,ff,ff,ff,ff,ff,ff,ff,ff] rfl rfl (any_of HT_.out (by kernel_rfl)) (fun _ _ _ h => h) (Or.inr ⟨by rfl,rfl⟩) ?_ ?_
       rotate_left
       ·simp only [Act.put,sA,sZ,sS,i64_w,i32_w]
        rfl
       refine pure_ (i:=7) (N:=some 20) (v:=undef) (a':=?_) #[tt,tt,tt,tt,tt,tt,tt,tt,ff,ff,ff,ff,ff,ff,ff,ff,ff,ff,ff,ff,ff,ff,ff,ff,ff] rfl rfl (any_of HT_.out (by kernel_rfl)) (fun _ _ _ h => h) (Or.inr ⟨by rfl,rfl⟩) ?_ ?_
       rotate_left
       ·simp only [Act.put,sA,sZ,sS,i64_w,i32_w]
        rfl
       refine pure_ (i:=8) (N:=some 21) (v:=undef) (a':=?_) #[tt,tt,tt,tt,tt,tt,tt,tt,tt,ff,ff,ff,ff,ff,ff,ff,ff,ff,ff,ff,ff,ff,ff,ff,ff] rfl rfl (any_of HT_.out (by kernel_rfl)) (fun _ _ _ h => h) (Or.inr ⟨by rfl,rfl⟩) ?_ ?_
       rotate_left
       ·simp only [Act.put,sA,sZ,sS,i64_w,i32_w]
        rfl
       refine pure_ (i:=9) (N:=some 22) (v:=undef) (a':=?_) #[tt,tt,tt,tt,tt,tt,tt,tt,tt,tt,ff,ff,ff,ff,ff,ff,ff,ff,ff,ff,ff,ff,ff,ff,ff] rfl rfl (any_of HT_.out (by kernel_rfl)) (fun _ _ _ h => h) (Or.inr ⟨by rfl,rfl⟩) ?_ ?_
       rotate_left
       ·simp only [Act.put,sA,sZ,sS,i64_w,i32_w]
        rfl
       refine pure_ (i:=10) (N:=some 23) (v:=undef) (a':=?_) #[tt,tt,tt,tt,tt,tt,tt,tt,tt,tt,tt,ff,ff,ff,ff,ff,ff,ff,ff,ff,ff,ff,ff,ff,ff] rfl rfl (any_of HT_.out (by kernel_rfl)) (fun _ _ _ h => h) (Or.inr ⟨by rfl,rfl⟩) ?_ ?_
       rotate_left
       ·simp only [Act.put,sA,sZ,sS,i64_w,i32_w]
        rfl
       refine pure_ (i:=11) (N:=some 24) (v:=undef) (a':=?_) #[tt,tt,tt,tt,tt,tt,tt,tt,tt,tt,tt,tt,ff,ff,ff,ff,ff,ff,ff,ff,ff,ff,ff,ff,ff] rfl rfl (any_of HT_.out (by kernel_rfl)) (fun _ _ _ h => h) (Or.inr ⟨by rfl,rfl⟩) ?_ ?_
       rotate_left
       ·simp only [Act.put,sA,sZ,sS,i64_w,i32_w]
        rfl
       refine pure_ (i:=12) (N:=some 25) (v:=undef) (a':=?_) #[tt,tt,tt,tt,tt,tt,tt,tt,tt,tt,tt,tt,tt,ff,ff,ff,ff,ff,ff,ff,ff,ff,ff,ff,ff] rfl rfl (any_of HT_.out (by kernel_rfl)) (fun _ _ _ h => h) (Or.inr ⟨by rfl,rfl⟩) ?_ ?_
       rotate_left
       ·simp only [Act.put,sA,sZ,sS,i64_w,i32_w]
        rfl
       refine pure_ (i:=13) (N:=some 26) (v:=undef) (a':=?_) #[tt,tt,tt,tt,tt,tt,tt,tt,tt,tt,tt,tt,tt,tt,ff,ff,ff,ff,ff,ff,ff,ff,ff,ff,ff] rfl rfl (any_of HT_.out (by kernel_rfl)) (fun _ _ _ h => h) (Or.inr ⟨by rfl,rfl⟩) ?_ ?_
       rotate_left
       ·simp only [Act.put,sA,sZ,sS,i64_w,i32_w]
        rfl
       refine pure_ (i:=14) (N:=some 27) (v:=undef) (a':=?_) #[tt,tt,tt,tt,tt,tt,tt,tt,tt,tt,tt,tt,tt,tt,tt,ff,ff,ff,ff,ff,ff,ff,ff,ff,ff] rfl rfl (any_of HT_.out (by kernel_rfl)) (fun _ _ _ h => h) (Or.inr ⟨by rfl,rfl⟩) ?_ ?_
       rotate_left
       ·simp only [Act.put,sA,sZ,sS,i64_w,i32_w]
        rfl
       refine pure_ (i:=15) (N:=some 28) (v:=undef) (a':=?_) #[tt,tt,tt,tt,tt,tt,tt,tt,tt,tt,tt,tt,tt,tt,tt,tt,ff,ff,ff,ff,ff,ff,ff,ff,ff] rfl rfl (any_of HT_.out (by kernel_rfl)) (fun _ _ _ h => h) (Or.inr ⟨by rfl,rfl⟩) ?_ ?_
       rotate_left
       ·simp only [Act.put,sA,sZ,sS,i64_w,i32_w]
        rfl
       refine pure_ (i:=16) (N:=some 29) (v:=undef) (a':=?_) #[tt,tt,tt,tt,tt,tt,tt,tt,tt,tt,tt,tt,tt,tt,tt,tt,tt,ff,ff,ff,ff,ff,ff,ff,ff] rfl rfl (any_of HT_.out (by kernel_rfl)) (fun _ _ _ h => h) (Or.inr ⟨by rfl,rfl⟩) ?_ ?_
       rotate_left
       ·simp only [Act.put,sA,sZ,sS,i64_w,i32_w]
        rfl
       refine pure_ (i:=17) (N:=some 30) (v:=undef) (a':=?_) #[tt,tt,tt,tt,tt,tt,tt,tt,tt,tt,tt,tt,tt,tt,tt,tt,tt,tt,ff,ff,ff,ff,ff,ff,ff] rfl rfl (any_of HT_.out (by kernel_rfl)) (fun _ _ _ h => h) (Or.inr ⟨by rfl,rfl⟩) ?_ ?_
       rotate_left
       ·simp only [Act.put,sA,sZ,sS,i64_w,i32_w]
        rfl
       refine pure_ (i:=18) (N:=some 31) (v:=?_) (a':=?_) #[tt,tt,tt,tt,tt,tt,tt,tt,tt,tt,tt,tt,tt,tt,tt,tt,tt,tt,tt,ff,ff,ff,ff,ff,ff] rfl rfl (any_of HT_.out (by kernel_rfl)) (fun _ _ _ h => h) (Or.inl ⟨by rfl,?_⟩) ?_ ?_
       rotate_left
       ·intro w'
        go_simp
        with_reducible rfl
       rotate_left
       ·simp only [Act.put,sA,sZ,sS,i64_w,i32_w]
        rfl
       refine pure_ (i:=19) (N:=some 32) (v:=?_) (a':=?_) #[tt,tt,tt,tt,tt,tt,tt,tt,tt,tt,tt,tt,tt,tt,tt,tt,tt,tt,tt,tt,ff,ff,ff,ff,ff] rfl rfl (any_of HT_.out (by kernel_rfl)) (fun _ _ _ h => h) (Or.inl ⟨by rfl,?_⟩) ?_ ?_
       rotate_left
       ·intro w'
        go_simp
        with_reducible rfl
       rotate_left
       ·simp only [Act.put,sA,sZ,sS,i64_w,i32_w]
        rfl
       refine pure_ (i:=20) (N:=some 33) (v:=undef) (a':=?_) #[tt,tt,tt,tt,tt,tt,tt,tt,tt,tt,tt,tt,tt,tt,tt,tt,tt,tt,tt,tt,tt,ff,ff,ff,ff] rfl rfl (any_of HT_.out (by kernel_rfl)) (fun _ _ _ h => h) (Or.inr ⟨by rfl,rfl⟩) ?_ ?_
       rotate_left
       ·simp only [Act.put,sA,sZ,sS,i64_w,i32_w]
        rfl
       refine pure_ (i:=21) (N:=some 34) (v:=undef) (a':=?_) #[tt,tt,tt,tt,tt,tt,tt,tt,tt,tt,tt,tt,tt,tt,tt,tt,tt,tt,tt,tt,tt,tt,ff,ff,ff] rfl rfl (any_of HT_.out (by kernel_rfl)) (fun _ _ _ h => h) (Or.inr ⟨by rfl,rfl⟩) ?_ ?_
       rotate_left
       ·simp only [Act.put,sA,sZ,sS,i64_w,i32_w]
        rfl
       refine pure_ (i:=22) (N:=some 35) (v:=undef) (a':=?_) #[tt,tt,tt,tt,tt,tt,tt,tt,tt,tt,tt,tt,tt,tt,tt,tt,tt,tt,tt,tt,tt,tt,tt,ff,ff] rfl rfl (any_of HT_.out (by kernel_rfl)) (fun _ _ _ h => h) (Or.inr ⟨by rfl,rfl⟩) ?_ ?_
       rotate_left
       ·simp only [Act.put,sA,sZ,sS,i64_w,i32_w]
        rfl
       refine pure_ (i:=23) (N:=some 36) (v:=undef) (a':=?_) #[tt,tt,tt,tt,tt,tt,tt,tt,tt,tt,tt,tt,tt,tt,tt,tt,tt,tt,tt,tt,tt,tt,tt,tt,ff] rfl rfl (any_of HT_.out (by kernel_rfl)) (fun _ _ _ h => h) (Or.inr ⟨by rfl,rfl⟩) ?_ ?_
       rotate_left
       ·simp only [Act.put,sA,sZ,sS,i64_w,i32_w]
        rfl
       refine pure_ (i:=24) (N:=some 37) (v:=?_) (a':=?_) #[tt,tt,tt,tt,tt,tt,tt,tt,tt,tt,tt,tt,tt,tt,tt,tt,tt,tt,tt,tt,tt,tt,tt,tt,tt] rfl rfl (any_of HT_.out (by kernel_rfl)) (fun _ _ _ h => h) (Or.inl ⟨by rfl,?_⟩) ?_ ?_
       rotate_left
       ·intro w'
        go_simp
        with_reducible rfl
       rotate_left
       ·simp only [Act.put,sA,sZ,sS,i64_w,i32_w]
        rfl
       refine done_ (done_of HT_.out (by kernel_rfl)) ?_
       try go_wp2
       go_ret
       exact ⟨by first|rfl|(simp [errW_none,errW_some] <;> rfl)|(simp [*,errW_none,errW_some] <;> rfl),by repeat (first|(with_reducible first|exact HB.out|apply bA|apply bN|apply bD|refine bS ?_ GE164.out|refine bS ?_ GE166.out)|exact HB.out)⟩
      ·rw [if_neg c7] at H
       have c7b0 : (((rd_T51 l0_0 x8_1).f0) == 0) = false:=beq_eq_false_iff_ne.mpr c7
       have c7b1 : (((rd_T51 l0_0 x8_1).f0) != 0) = true:=bne_iff_ne.mpr c7
       by_cases c13 : x8_1 > 0
       ·rw [if_pos c13] at H
        have c13b0 : decide (0 < x8_1) = true:=decide_eq_true c13
        clear c13
        obtain ⟨ji14,hji14⟩ : ∃ j_ : Int,(wrap64 (x8_1 - 1)) = j_:=⟨_,rfl⟩
        replace H : (if 0 ≤ (ji14) then (if (ji14) < (l0_0.length : Int) then (if ((rd_T51 l0_0 (ji14)).f0) ≥ ((rd_T51 l0_0 x8_1).f0) then (some false) else ((gazetteerref09_Box.f ((rd_T51 l0_0 x8_1).f1.f0) ((rd_T51 l0_0 x8_1).f1.f1) ((rd_T51 l0_0 x8_1).f1.f2) ((rd_T51 l0_0 x8_1).f1.f3)).bind fun t168 => (if t168 = true then (gazetteerref22_Right.l0 k1 l0_0 (l0_0.length : Int) (wrap64 (x8_1+1)) l0_0) else (some false)))) else (none)) else (none)) = some r:=by first|(rw [hji14] at H;exact H)|(simp only [hji14] at H ⊢;exact H)
        have hji14w : (IntKind.i64.wrap (x8_1 - 1)) = ji14:=(i64_w _).trans hji14
        by_cases c15 : 0 ≤ (ji14)
        ·rw [if_pos c15] at H
         have c15b0 : decide (0 ≤ (ji14)) = true:=decide_eq_true c15
         clear c15
         by_cases c16 : (ji14) < (l0_0.length : Int)
         ·rw [if_pos c16] at H
          have c16b0 : decide ((ji14) < (l0_0.length : Int)) = true:=decide_eq_true c16
          clear c16
          by_cases c17 : ((rd_T51 l0_0 (ji14)).f0) ≥ ((rd_T51 l0_0 x8_1).f0)
          ·rw [if_pos c17] at H
           have c17b0 : decide (((rd_T51 l0_0 x8_1).f0) ≤ ((rd_T51 l0_0 (ji14)).f0)) = true:=decide_eq_true c17
           clear c17
           obtain rfl:=Option.some.inj H
           have p165 : 0 ≤ (x8_1 : Int):=of_decide_eq_true (by first|(with_reducible assumption)|assumption)
           have q165 : x8_1 < (l0_0.length : Int):=of_decide_eq_true (by first|(with_reducible assumption)|assumption)
           obtain ⟨ad165,e165,hx165_0,hx165_1,hx165_2,hx165_3,hx165_4,hx165_5⟩:=at_T51 HR0_0.out x8_1 p165 q165
           cases e165
           replace hx165_0:=(HB.out.cell (World.block_lt_of_cell? w _ hx165_0)).trans hx165_0
           replace hx165_1:=(HB.out.cell (World.block_lt_of_cell? w _ hx165_1)).trans hx165_1
           replace hx165_2:=(HB.out.cell (World.block_lt_of_cell? w _ hx165_2)).trans hx165_2
           replace hx165_3:=(HB.out.cell (World.block_lt_of_cell? w _ hx165_3)).trans hx165_3
           replace hx165_4:=(HB.out.cell (World.block_lt_of_cell? w _ hx165_4)).trans hx165_4
           replace hx165_5:=(HB.out.cell (World.block_lt_of_cell? w _ hx165_5)).trans hx165_5
           replace p165:=eq_true p165
           replace q165:=eq_true q165
           try go_wp2_with (first|((with_reducible refine gate_dst (N:=4) rfl ?_);refine box_event ?hg (N:=4) ?hd (cs:=#[.int .u32 0,.int .i64 0,.int .i64 0,.int .i64 0,.int .i64 0,.int .i64 0]) (t:=51) ?hr ?_;(case hd => rfl);(case hg => rfl);(case hr => first|(go_simp;done)|(go_simp;rfl));intro gb166 hg w18 hbox hb;have n0_:=Ak (kB (g:=gb164) (o:=.cells #[.slice (some ad165) l0_0.length c0_0] 24 (0,0)) (by (with_reducible repeat (first|refine kN ?_ _|refine kD ?_|refine kA ?_ _));exact BK164.out) hb);have n1_:=Ak (below_step (by repeat (first|(with_reducible first|exact HB.out|apply bA|apply bN|apply bD|refine bS ?_ GE164.out)|exact HB.out)) hb);have n2_:=Ak (hbox);have n3_:=Ak ((by rw [hg];exact (below_size (by repeat (first|(with_reducible first|exact HB.out|apply bA|apply bN|apply bD|refine bS ?_ GE164.out)|exact HB.out))) : w.heap.size ≤ gb166));have n4_:=Ak ((by rw [hg];exact (below_size (by repeat (first|(with_reducible first|exact HB.out|apply bA|apply bN|apply bD|refine bS ?_ GE164.out)|exact HB.out))) : w.heap.size ≤ gb166));have n5_:=Ak ((by rw [hg];exact Nat.ne_of_lt (blk_lt (g:=gb164) (o:=.cells #[.slice (some ad165) l0_0.length c0_0] 24 (0,0)) (by (with_reducible repeat (first|refine kN ?_ _|refine kD ?_|refine kA ?_ _));exact BK164.out)) : gb164 ≠ gb166));have n6_:=Ak ((by rw [hg];exact Nat.ne_of_gt (blk_lt (g:=gb164) (o:=.cells #[.slice (some ad165) l0_0.length c0_0] 24 (0,0)) (by (with_reducible repeat (first|refine kN ?_ _|refine kD ?_|refine kA ?_ _));exact BK164.out)) : gb166 ≠ gb164));clear BK164;clear HB;have BK164:=n0_;have HB:=n1_;have BK166:=n2_;have GW166:=n3_;have GE166:=n4_;have NB164_166:=n5_;have NB166_164:=n6_;clear n0_ n1_ n2_ n3_ n4_ n5_ n6_;clear hb hbox hg;have hnb19:=NB166_164.out;have hnc19:=NB164_166.out;have hcz20_0 : w18.cell? ⟨gb166,0,none⟩ = some (.int .u32 0):=(kC BK166.out 0).trans rfl;have hcz20_1 : w18.cell? ⟨gb166,1,none⟩ = some (.int .i64 0):=(kC BK166.out 1).trans rfl;have hcz20_2 : w18.cell? ⟨gb166,2,none⟩ = some (.int .i64 0):=(kC BK166.out 2).trans rfl;have hcz20_3 : w18.cell? ⟨gb166,3,none⟩ = some (.int .i64 0):=(kC BK166.out 3).trans rfl;have hcz20_4 : w18.cell? ⟨gb166,4,none⟩ = some (.int .i64 0):=(kC BK166.out 4).trans rfl;have hcz20_5 : w18.cell? ⟨gb166,5,none⟩ = some (.int .i64 0):=(kC BK166.out 5).trans rfl;have hfz20_0:=blk_frozen BK166.out 0;have hfz20_1:=blk_frozen BK166.out 1;have hfz20_2:=blk_frozen BK166.out 2;have hfz20_3:=blk_frozen BK166.out 3;have hfz20_4:=blk_frozen BK166.out 4;have hfz20_5:=blk_frozen BK166.out 5))
           have n0_ : Aside0 (((((((w18.setCell ⟨gb166,0,none⟩ (.int .u32 ((rd_T51 l0_0 x8_1).f0))).setCell ⟨gb166,1,none⟩ (.int .i64 ((rd_T51 l0_0 x8_1).f1.f0))).setCell ⟨gb166,2,none⟩ (.int .i64 ((rd_T51 l0_0 x8_1).f1.f1))).setCell ⟨gb166,3,none⟩ (.int .i64 ((rd_T51 l0_0 x8_1).f1.f2))).setCell ⟨gb166,4,none⟩ (.int .i64 ((rd_T51 l0_0 x8_1).f1.f3))).setCell ⟨gb166,5,none⟩ (.int .i64 ((rd_T51 l0_0 x8_1).f2))).heap[gb164]? = some (.cells #[.slice (some ad165) l0_0.length c0_0] 24 (0,0))):=⟨by (with_reducible repeat (first|refine kN ?_ _|refine kD ?_|refine kA ?_ _));refine blk_far ?_ NB164_166.out _;(with_reducible repeat (first|refine kN ?_ _|refine kD ?_|refine kA ?_ _));refine blk_far ?_ NB164_166.out _;(with_reducible repeat (first|refine kN ?_ _|refine kD ?_|refine kA ?_ _));refine blk_far ?_ NB164_166.out _;(with_reducible repeat (first|refine kN ?_ _|refine kD ?_|refine kA ?_ _));refine blk_far ?_ NB164_166.out _;(with_reducible repeat (first|refine kN ?_ _|refine kD ?_|refine kA ?_ _));refine blk_far ?_ NB164_166.out _;(with_reducible repeat (first|refine kN ?_ _|refine kD ?_|refine kA ?_ _));refine blk_far ?_ NB164_166.out _;(with_reducible repeat (first|refine kN ?_ _|refine kD ?_|refine kA ?_ _));exact BK164.out⟩
           have n1_ : Aside0 (((((((w18.setCell ⟨gb166,0,none⟩ (.int .u32 ((rd_T51 l0_0 x8_1).f0))).setCell ⟨gb166,1,none⟩ (.int .i64 ((rd_T51 l0_0 x8_1).f1.f0))).setCell ⟨gb166,2,none⟩ (.int .i64 ((rd_T51 l0_0 x8_1).f1.f1))).setCell ⟨gb166,3,none⟩ (.int .i64 ((rd_T51 l0_0 x8_1).f1.f2))).setCell ⟨gb166,4,none⟩ (.int .i64 ((rd_T51 l0_0 x8_1).f1.f3))).setCell ⟨gb166,5,none⟩ (.int .i64 ((rd_T51 l0_0 x8_1).f2))).heap[gb166]? = some (.cells #[.int .u32 ((rd_T51 l0_0 x8_1).f0),.int .i64 ((rd_T51 l0_0 x8_1).f1.f0),.int .i64 ((rd_T51 l0_0 x8_1).f1.f1),.int .i64 ((rd_T51 l0_0 x8_1).f1.f2),.int .i64 ((rd_T51 l0_0 x8_1).f1.f3),.int .i64 ((rd_T51 l0_0 x8_1).f2)] 51 (0,0))):=⟨by (with_reducible repeat (first|refine kN ?_ _|refine kD ?_|refine kA ?_ _));refine blk_put (cs:=#[.int .u32 ((rd_T51 l0_0 x8_1).f0),.int .i64 ((rd_T51 l0_0 x8_1).f1.f0),.int .i64 ((rd_T51 l0_0 x8_1).f1.f1),.int .i64 ((rd_T51 l0_0 x8_1).f1.f2),.int .i64 ((rd_T51 l0_0 x8_1).f1.f3),.int .i64 0]) ?_ 5 _ rfl;(with_reducible repeat (first|refine kN ?_ _|refine kD ?_|refine kA ?_ _));refine blk_put (cs:=#[.int .u32 ((rd_T51 l0_0 x8_1).f0),.int .i64 ((rd_T51 l0_0 x8_1).f1.f0),.int .i64 ((rd_T51 l0_0 x8_1).f1.f1),.int .i64 ((rd_T51 l0_0 x8_1).f1.f2),.int .i64 0,.int .i64 0]) ?_ 4 _ rfl;(with_reducible repeat (first|refine kN ?_ _|refine kD ?_|refine kA ?_ _));refine blk_put (cs:=#[.int .u32 ((rd_T51 l0_0 x8_1).f0),.int .i64 ((rd_T51 l0_0 x8_1).f1.f0),.int .i64 ((rd_T51 l0_0 x8_1).f1.f1),.int .i64 0,.int .i64 0,.int .i64 0]) ?_ 3 _ rfl;(with_reducible repeat (first|refine kN ?_ _|refine kD ?_|refine kA ?_ _));refine blk_put (cs:=#[.int .u32 ((rd_T51 l0_0 x8_1).f0),.int .i64 ((rd_T51 l0_0 x8_1).f1.f0),.int .i64 0,.int .i64 0,.int .i64 0,.int .i64 0]) ?_ 2 _ rfl;(with_reducible repeat (first|refine kN ?_ _|refine kD ?_|refine kA ?_ _));refine blk_put (cs:=#[.int .u32 ((rd_T51 l0_0 x8_1).f0),.int .i64 0,.int .i64 0,.int .i64 0,.int .i64 0,.int .i64 0]) ?_ 1 _ rfl;(with_reducible repeat (first|refine kN ?_ _|refine kD ?_|refine kA ?_ _));refine blk_put (cs:=#[.int .u32 0,.int .i64 0,.int .i64 0,.int .i64 0,.int .i64 0,.int .i64 0]) ?_ 0 _ rfl;(with_reducible repeat (first|refine kN ?_ _|refine kD ?_|refine kA ?_ _));exact BK166.out⟩
           have n2_ : Aside0 (Below w.heap.size w ((((((w18.setCell ⟨gb166,0,none⟩ (.int .u32 ((rd_T51 l0_0 x8_1).f0))).setCell ⟨gb166,1,none⟩ (.int .i64 ((rd_T51 l0_0 x8_1).f1.f0))).setCell ⟨gb166,2,none⟩ (.int .i64 ((rd_T51 l0_0 x8_1).f1.f1))).setCell ⟨gb166,3,none⟩ (.int .i64 ((rd_T51 l0_0 x8_1).f1.f2))).setCell ⟨gb166,4,none⟩ (.int .i64 ((rd_T51 l0_0 x8_1).f1.f3))).setCell ⟨gb166,5,none⟩ (.int .i64 ((rd_T51 l0_0 x8_1).f2)))):=⟨by repeat (first|(with_reducible first|exact HB.out|apply bA|apply bN|apply bD|refine bS ?_ GE164.out|refine bS ?_ GE166.out)|exact HB.out)⟩
           (try clear BK164)
           (try clear BK166)
           (try clear HB)
           generalize ((((((w18.setCell ⟨gb166,0,none⟩ (.int .u32 ((rd_T51 l0_0 x8_1).f0))).setCell ⟨gb166,1,none⟩ (.int .i64 ((rd_T51 l0_0 x8_1).f1.f0))).setCell ⟨gb166,2,none⟩ (.int .i64 ((rd_T51 l0_0 x8_1).f1.f1))).setCell ⟨gb166,3,none⟩ (.int .i64 ((rd_T51 l0_0 x8_1).f1.f2))).setCell ⟨gb166,4,none⟩ (.int .i64 ((rd_T51 l0_0 x8_1).f1.f3))).setCell ⟨gb166,5,none⟩ (.int .i64 ((rd_T51 l0_0 x8_1).f2))) = w21 at n0_ n1_ n2_ ⊢
           have BK164:=n0_
           have BK166:=n1_
           have HB:=n2_
           clear n0_ n1_ n2_
           have n0_:=Ak (kD BK164.out)
           have n1_:=Ak (kD BK166.out)
           have n2_:=Ak (bD HB.out)
           clear BK164
           clear BK166
           clear HB
           have BK164:=n0_
           have BK166:=n1_
           have HB:=n2_
           clear n0_ n1_ n2_
           have p167 : 0 ≤ ((ji14) : Int):=of_decide_eq_true (by first|(with_reducible assumption)|assumption)
           have q167 : (ji14) < (l0_0.length : Int):=of_decide_eq_true (by first|(with_reducible assumption)|assumption)
           obtain ⟨ad167,e167,hx167_0,hx167_1,hx167_2,hx167_3,hx167_4,hx167_5⟩:=at_T51 HR0_0.out (ji14) p167 q167
           have hw167_5:=hx167_5
           have hw167_4:=hx167_4
           have hw167_3:=hx167_3
           have hw167_2:=hx167_2
           have hw167_1:=hx167_1
           have hw167_0:=hx167_0
           obtain rfl : ad165 = ad167:=(by injection e167)
           replace hx167_0:=(HB.out.cell (World.block_lt_of_cell? w _ hx167_0)).trans hx167_0
           replace hx167_1:=(HB.out.cell (World.block_lt_of_cell? w _ hx167_1)).trans hx167_1
           replace hx167_2:=(HB.out.cell (World.block_lt_of_cell? w _ hx167_2)).trans hx167_2
           replace hx167_3:=(HB.out.cell (World.block_lt_of_cell? w _ hx167_3)).trans hx167_3
           replace hx167_4:=(HB.out.cell (World.block_lt_of_cell? w _ hx167_4)).trans hx167_4
           replace hx167_5:=(HB.out.cell (World.block_lt_of_cell? w _ hx167_5)).trans hx167_5
           replace p167:=eq_true p167
           replace q167:=eq_true q167
           refine start_ (n:=25) (S:=fun w' => w'.cell? ⟨gb166,0,none⟩ = some (.int .u32 ((rd_T51 l0_0 x8_1).f0))∧w'.cell? ⟨gb166,1,none⟩ = some (.int .i64 ((rd_T51 l0_0 x8_1).f1.f0))∧w'.cell? ⟨gb166,2,none⟩ = some (.int .i64 ((rd_T51 l0_0 x8_1).f1.f1))∧w'.cell? ⟨gb166,3,none⟩ = some (.int .i64 ((rd_T51 l0_0 x8_1).f1.f2))∧w'.cell? ⟨gb166,4,none⟩ = some (.int .i64 ((rd_T51 l0_0 x8_1).f1.f3))∧w'.cell? ⟨gb166,5,none⟩ = some (.int .i64 ((rd_T51 l0_0 x8_1).f2))∧w'.cell? ⟨gb164,0,none⟩ = some (.slice (some ad165) l0_0.length c0_0)∧w'.cell? (ad165.add (((ji14)).toNat*6)) = some (.int .u32 ((rd_T51 l0_0 (ji14)).f0))∧w'.cell? ⟨(ad165.add (((ji14)).toNat*6)).block,(ad165.add (((ji14)).toNat*6)).off+1,none⟩ = some (.int .i64 ((rd_T51 l0_0 (ji14)).f1.f0))∧w'.cell? ⟨(ad165.add (((ji14)).toNat*6)).block,(ad165.add (((ji14)).toNat*6)).off+2,none⟩ = some (.int .i64 ((rd_T51 l0_0 (ji14)).f1.f1))∧w'.cell? ⟨(ad165.add (((ji14)).toNat*6)).block,(ad165.add (((ji14)).toNat*6)).off+3,none⟩ = some (.int .i64 ((rd_T51 l0_0 (ji14)).f1.f2))∧w'.cell? ⟨(ad165.add (((ji14)).toNat*6)).block,(ad165.add (((ji14)).toNat*6)).off+4,none⟩ = some (.int .i64 ((rd_T51 l0_0 (ji14)).f1.f3))∧w'.cell? ⟨(ad165.add (((ji14)).toNat*6)).block,(ad165.add (((ji14)).toNat*6)).off+5,none⟩ = some (.int .i64 ((rd_T51 l0_0 (ji14)).f2))) (ds:=[]) #[ff,ff,ff,ff,ff,ff,ff,ff,ff,ff,ff,ff,ff,ff,ff,ff,ff,ff,ff,ff,ff,ff,ff,ff,ff] (by kernel_rfl) rfl rfl ⟨(kC BK166.out 0).trans rfl,(kC BK166.out 1).trans rfl,(kC BK166.out 2).trans rfl,(kC BK166.out 3).trans rfl,(kC BK166.out 4).trans rfl,(kC BK166.out 5).trans rfl,(kC BK164.out 0).trans rfl,((HB.out.cell (World.block_lt_of_cell? w _ hw167_0)).trans hw167_0),((HB.out.cell (World.block_lt_of_cell? w _ hw167_1)).trans hw167_1),((HB.out.cell (World.block_lt_of_cell? w _ hw167_2)).trans hw167_2),((HB.out.cell (World.block_lt_of_cell? w _ hw167_3)).trans hw167_3),((HB.out.cell (World.block_lt_of_cell? w _ hw167_4)).trans hw167_4),((HB.out.cell (World.block_lt_of_cell? w _ hw167_5)).trans hw167_5)⟩ (fun hHeld => ?_);refine with_tabW gazetteerref22_Right.tab4 gazetteerref22_Right.bits4 (fun HT_ HW_ => ?_)
           generalize w21.drew = w22 at BK164 BK166 HB hx167_0 hx167_1 hx167_2 hx167_3 hx167_4 hx167_5 hHeld ⊢
           refine pure_ (i:=0) (N:=some 13) (v:=?_) (a':=?_) #[tt,ff,ff,ff,ff,ff,ff,ff,ff,ff,ff,ff,ff,ff,ff,ff,ff,ff,ff,ff,ff,ff,ff,ff,ff] rfl rfl (any_of HT_.out (by kernel_rfl)) (fun _ _ _ h => h) (Or.inl ⟨by rfl,?_⟩) ?_ ?_
           rotate_left
           ·intro w'
            go_simp
            with_reducible rfl
           rotate_left
           ·simp only [Act.put,sA,sZ,sS,i64_w,i32_w]
            rfl
           refine take_ (i:=1) (N:=some 14) (v:=?_) (a':=?_) #[tt,tt,ff,ff,ff,ff,ff,ff,ff,ff,ff,ff,ff,ff,ff,ff,ff,ff,ff,ff,ff,ff,ff,ff,ff] rfl rfl (take_ofW HT_.out HW_.out (by kernel_rfl)) (fun _ _ _ h => h) (Or.inl ⟨by rfl,?_⟩) hHeld ?_ ?_
           rotate_left
           ·rintro w' ⟨s0,s1,s2,s3,s4,s5,s6,s7,s8,s9,s10,s11,s12⟩
            go_simp
            with_reducible rfl
           rotate_left
           ·simp only [Act.put,sA,sZ,sS,i64_w,i32_w]
            rfl
           refine pure_ (i:=2) (N:=some 15) (v:=?_) (a':=?_) #[tt,tt,tt,ff,ff,ff,ff,ff,ff,ff,ff,ff,ff,ff,ff,ff,ff,ff,ff,ff,ff,ff,ff,ff,ff] rfl rfl (any_of HT_.out (by kernel_rfl)) (fun _ _ _ h => h) (Or.inl ⟨by rfl,?_⟩) ?_ ?_
           rotate_left
           ·intro w'
            go_simp
            with_reducible rfl
           rotate_left
           ·simp only [Act.put,sA,sZ,sS,i64_w,i32_w]
            rfl
           refine pure_ (i:=3) (N:=some 16) (v:=?_) (a':=?_) #[tt,tt,tt,tt,ff,ff,ff,ff,ff,ff,ff,ff,ff,ff,ff,ff,ff,ff,ff,ff,ff,ff,ff,ff,ff] rfl rfl (any_of HT_.out (by kernel_rfl)) (fun _ _ _ h => h) (Or.inl ⟨by rfl,?_⟩) ?_ ?_
           rotate_left
           ·intro w'
            go_simp
            with_reducible rfl
           rotate_left
           ·simp only [Act.put,sA,sZ,sS,i64_w,i32_w]
            rfl
           refine pure_ (i:=4) (N:=some 17) (v:=?_) (a':=?_) #[tt,tt,tt,tt,tt,ff,ff,ff,ff,ff,ff,ff,ff,ff,ff,ff,ff,ff,ff,ff,ff,ff,ff,ff,ff] rfl rfl (any_of HT_.out (by kernel_rfl)) (fun _ _ _ h => h) (Or.inl ⟨by rfl,?_⟩) ?_ ?_
           rotate_left
           ·intro w'
            go_simp
            with_reducible rfl
           rotate_left
           ·simp only [Act.put,sA,sZ,sS,i64_w,i32_w]
            rfl
           refine pure_ (i:=5) (N:=some 18) (v:=?_) (a':=?_) #[tt,tt,tt,tt,tt,tt,ff,ff,ff,ff,ff,ff,ff,ff,ff,ff,ff,ff,ff,ff,ff,ff,ff,ff,ff] rfl rfl (any_of HT_.out (by kernel_rfl)) (fun _ _ _ h => h) (Or.inl ⟨by rfl,?_⟩) ?_ ?_
           rotate_left
           ·intro w'
            go_simp
            with_reducible rfl
           rotate_left
           ·simp only [Act.put,sA,sZ,sS,i64_w,i32_w]
            rfl
           refine pure_ (i:=6) (N:=some 19) (v:=?_) (a':=?_) #[tt,tt,tt,tt,tt,tt,tt,ff,ff,ff,ff,ff,ff,ff,ff,ff,ff,ff,ff,ff,ff,ff,ff,ff,ff] rfl rfl (any_of HT_.out (by kernel_rfl)) (fun _ _ _ h => h) (Or.inl ⟨by rfl,?_⟩) ?_ ?_
           rotate_left
           ·intro w'
            go_simp
            with_reducible rfl
           rotate_left
           ·simp only [Act.put,sA,sZ,sS,i64_w,i32_w]
            rfl
           refine pure_ (i:=7) (N:=some 20) (v:=?_) (a':=?_) #[tt,tt,tt,tt,tt,tt,tt,tt,ff,ff,ff,ff,ff,ff,ff,ff,ff,ff,ff,ff,ff,ff,ff,ff,ff] rfl rfl (any_of HT_.out (by kernel_rfl)) (fun _ _ _ h => h) (Or.inl ⟨by rfl,?_⟩) ?_ ?_
           rotate_left
           ·intro w'
            go_simp
            with_reducible rfl
           rotate_left
           ·simp only [Act.put,sA,sZ,sS,i64_w,i32_w]
            rfl
           refine pure_ (i:=9) (N:=some 22) (v:=?_) (a':=?_) #[tt,tt,tt,tt,tt,tt,tt,tt,ff,tt,ff,ff,ff,ff,ff,ff,ff,ff,ff,ff,ff,ff,ff,ff,ff] rfl rfl (any_of HT_.out (by kernel_rfl)) (fun _ _ _ h => h) (Or.inl ⟨by rfl,?_⟩) ?_ ?_
           rotate_left
           ·intro w'
            go_simp
            with_reducible rfl
           rotate_left
           ·simp only [Act.put,sA,sZ,sS,i64_w,i32_w]
            rfl
           refine pure_ (i:=10) (N:=some 23) (v:=?_) (a':=?_) #[tt,tt,tt,tt,tt,tt,tt,tt,ff,tt,tt,ff,ff,ff,ff,ff,ff,ff,ff,ff,ff,ff,ff,ff,ff] rfl rfl (any_of HT_.out (by kernel_rfl)) (fun _ _ _ h => h) (Or.inl ⟨by rfl,?_⟩) ?_ ?_
           rotate_left
           ·intro w'
            go_simp
            with_reducible rfl
           rotate_left
           ·simp only [Act.put,sA,sZ,sS,i64_w,i32_w]
            rfl
           refine pure_ (i:=14) (N:=some 27) (v:=?_) (a':=?_) #[tt,tt,tt,tt,tt,tt,tt,tt,ff,tt,tt,ff,ff,ff,tt,ff,ff,ff,ff,ff,ff,ff,ff,ff,ff] rfl rfl (any_of HT_.out (by kernel_rfl)) (fun _ _ _ h => h) (Or.inl ⟨by rfl,?_⟩) ?_ ?_
           rotate_left
           ·intro w'
            go_simp
            with_reducible rfl
           rotate_left
           ·simp only [Act.put,sA,sZ,sS,i64_w,i32_w]
            rfl
           refine take_ (i:=8) (N:=some 21) (v:=?_) (a':=?_) #[tt,tt,tt,tt,tt,tt,tt,tt,tt,tt,tt,ff,ff,ff,tt,ff,ff,ff,ff,ff,ff,ff,ff,ff,ff] rfl rfl (take_ofW HT_.out HW_.out (by kernel_rfl)) (fun _ _ _ h => h) (Or.inl ⟨by rfl,?_⟩) hHeld ?_ ?_
           rotate_left
           ·rintro w' ⟨s0,s1,s2,s3,s4,s5,s6,s7,s8,s9,s10,s11,s12⟩
            go_simp
            with_reducible rfl
           rotate_left
           ·simp only [Act.put,sA,sZ,sS,i64_w,i32_w]
            rfl
           refine pure_ (i:=11) (N:=some 24) (v:=?_) (a':=?_) #[tt,tt,tt,tt,tt,tt,tt,tt,tt,tt,tt,tt,ff,ff,tt,ff,ff,ff,ff,ff,ff,ff,ff,ff,ff] rfl rfl (any_of HT_.out (by kernel_rfl)) (fun _ _ _ h => h) (Or.inl ⟨by rfl,?_⟩) ?_ ?_
           rotate_left
           ·intro w'
            go_simp
            with_reducible rfl
           rotate_left
           ·simp only [Act.put,sA,sZ,sS,i64_w,i32_w]
            rfl
           refine pure_ (i:=12) (N:=some 25) (v:=?_) (a':=?_) #[tt,tt,tt,tt,tt,tt,tt,tt,tt,tt,tt,tt,tt,ff,tt,ff,ff,ff,ff,ff,ff,ff,ff,ff,ff] rfl rfl (any_of HT_.out (by kernel_rfl)) (fun _ _ _ h => h) (Or.inl ⟨by rfl,?_⟩) ?_ ?_
           rotate_left
           ·intro w'
            go_simp
            with_reducible rfl
           rotate_left
           ·simp only [Act.put,sA,sZ,sS,i64_w,i32_w]
            rfl
           refine take_ (i:=13) (N:=some 26) (v:=?_) (a':=?_) #[tt,tt,tt,tt,tt,tt,tt,tt,tt,tt,tt,tt,tt,tt,tt,ff,ff,ff,ff,ff,ff,ff,ff,ff,ff] rfl rfl (take_ofW HT_.out HW_.out (by kernel_rfl)) (fun _ _ _ h => h) (Or.inl ⟨by rfl,?_⟩) hHeld ?_ ?_
           rotate_left
           ·rintro w' ⟨s0,s1,s2,s3,s4,s5,s6,s7,s8,s9,s10,s11,s12⟩
            go_simp
            with_reducible rfl
           rotate_left
           ·simp only [Act.put,sA,sZ,sS,i64_w,i32_w]
            rfl
           refine take_ (i:=15) (N:=some 28) (v:=?_) (a':=?_) #[tt,tt,tt,tt,tt,tt,tt,tt,tt,tt,tt,tt,tt,tt,tt,tt,ff,ff,ff,ff,ff,ff,ff,ff,ff] rfl rfl (take_ofW HT_.out HW_.out (by kernel_rfl)) (fun _ _ _ h => h) (Or.inl ⟨by rfl,?_⟩) hHeld ?_ ?_
           rotate_left
           ·rintro w' ⟨s0,s1,s2,s3,s4,s5,s6,s7,s8,s9,s10,s11,s12⟩
            go_simp
            with_reducible rfl
           rotate_left
           ·simp only [Act.put,sA,sZ,sS,i64_w,i32_w]
            rfl
           refine pure_ (i:=16) (N:=some 29) (v:=?_) (a':=?_) #[tt,tt,tt,tt,tt,tt,tt,tt,tt,tt,tt,tt,tt,tt,tt,tt,tt,ff,ff,ff,ff,ff,ff,ff,ff] rfl rfl (any_of HT_.out (by kernel_rfl)) (fun _ _ _ h => h) (Or.inl ⟨by rfl,?_⟩) ?_ ?_
           rotate_left
           ·intro w'
            go_simp
            with_reducible rfl
           rotate_left
           ·simp only [Act.put,sA,sZ,sS,i64_w,i32_w]
            rfl
           refine pure_ (i:=17) (N:=some 30) (v:=?_) (a':=?_) #[tt,tt,tt,tt,tt,tt,tt,tt,tt,tt,tt,tt,tt,tt,tt,tt,tt,tt,ff,ff,ff,ff,ff,ff,ff] rfl rfl (any_of HT_.out (by kernel_rfl)) (fun _ _ _ h => h) (Or.inl ⟨by rfl,?_⟩) ?_ ?_
           rotate_left
           ·intro w'
            go_simp
            with_reducible rfl
           rotate_left
           ·simp only [Act.put,sA,sZ,sS,i64_w,i32_w]
            rfl
           refine pure_ (i:=18) (N:=some 31) (v:=?_) (a':=?_) #[tt,tt,tt,tt,tt,tt,tt,tt,tt,tt,tt,tt,tt,tt,tt,tt,tt,tt,tt,ff,ff,ff,ff,ff,ff] rfl rfl (any_of HT_.out (by kernel_rfl)) (fun _ _ _ h => h) (Or.inl ⟨by rfl,?_⟩) ?_ ?_
           rotate_left
           ·intro w'
            go_simp
            with_reducible rfl
           rotate_left
           ·simp only [Act.put,sA,sZ,sS,i64_w,i32_w]
            rfl
           refine pure_ (i:=19) (N:=some 32) (v:=?_) (a':=?_) #[tt,tt,tt,tt,tt,tt,tt,tt,tt,tt,tt,tt,tt,tt,tt,tt,tt,tt,tt,tt,ff,ff,ff,ff,ff] rfl rfl (any_of HT_.out (by kernel_rfl)) (fun _ _ _ h => h) (Or.inl ⟨by rfl,?_⟩) ?_ ?_
           rotate_left
           ·intro w'
            go_simp
            with_reducible rfl
           rotate_left
           ·simp only [Act.put,sA,sZ,sS,i64_w,i32_w]
            rfl
           refine pure_ (i:=20) (N:=some 33) (v:=undef) (a':=?_) #[tt,tt,tt,tt,tt,tt,tt,tt,tt,tt,tt,tt,tt,tt,tt,tt,tt,tt,tt,tt,tt,ff,ff,ff,ff] rfl rfl (any_of HT_.out (by kernel_rfl)) (fun _ _ _ h => h) (Or.inr ⟨by rfl,rfl⟩) ?_ ?_
           rotate_left
           ·simp only [Act.put,sA,sZ,sS,i64_w,i32_w]
            rfl
           refine pure_ (i:=21) (N:=some 34) (v:=undef) (a':=?_) #[tt,tt,tt,tt,tt,tt,tt,tt,tt,tt,tt,tt,tt,tt,tt,tt,tt,tt,tt,tt,tt,tt,ff,ff,ff] rfl rfl (any_of HT_.out (by kernel_rfl)) (fun _ _ _ h => h) (Or.inr ⟨by rfl,rfl⟩) ?_ ?_
           rotate_left
           ·simp only [Act.put,sA,sZ,sS,i64_w,i32_w]
            rfl
           refine pure_ (i:=22) (N:=some 35) (v:=undef) (a':=?_) #[tt,tt,tt,tt,tt,tt,tt,tt,tt,tt,tt,tt,tt,tt,tt,tt,tt,tt,tt,tt,tt,tt,tt,ff,ff] rfl rfl (any_of HT_.out (by kernel_rfl)) (fun _ _ _ h => h) (Or.inr ⟨by rfl,rfl⟩) ?_ ?_
           rotate_left
           ·simp only [Act.put,sA,sZ,sS,i64_w,i32_w]
            rfl
           refine pure_ (i:=23) (N:=some 36) (v:=undef) (a':=?_) #[tt,tt,tt,tt,tt,tt,tt,tt,tt,tt,tt,tt,tt,tt,tt,tt,tt,tt,tt,tt,tt,tt,tt,tt,ff] rfl rfl (any_of HT_.out (by kernel_rfl)) (fun _ _ _ h => h) (Or.inr ⟨by rfl,rfl⟩) ?_ ?_
           rotate_left
           ·simp only [Act.put,sA,sZ,sS,i64_w,i32_w]
            rfl
           refine pure_ (i:=24) (N:=some 37) (v:=?_) (a':=?_) #[tt,tt,tt,tt,tt,tt,tt,tt,tt,tt,tt,tt,tt,tt,tt,tt,tt,tt,tt,tt,tt,tt,tt,tt,tt] rfl rfl (any_of HT_.out (by kernel_rfl)) (fun _ _ _ h => h) (Or.inl ⟨by rfl,?_⟩) ?_ ?_
           rotate_left
           ·intro w'
            go_simp
            with_reducible rfl
           rotate_left
           ·simp only [Act.put,sA,sZ,sS,i64_w,i32_w]
            rfl
           refine done_ (done_of HT_.out (by kernel_rfl)) ?_
           try go_wp2
           go_ret
           exact ⟨by first|rfl|(simp [errW_none,errW_some] <;> rfl)|(simp only [← hji14];first|rfl|(simp [errW_none,errW_some] <;> rfl))|(simp [*,errW_none,errW_some] <;> rfl),by repeat (first|(with_reducible first|exact HB.out|apply bA|apply bN|apply bD|refine bS ?_ GE164.out|refine bS ?_ GE166.out)|exact HB.out)⟩
          ·rw [if_neg c17] at H
           have c17b0 : decide (((rd_T51 l0_0 x8_1).f0) ≤ ((rd_T51 l0_0 (ji14)).f0)) = false:=decide_eq_false c17
           clear c17
           replace H:=Option.bind_eq_some_iff.mp H
           obtain ⟨t168,A230,H⟩:=H
           replace H : (if t168 = true then (gazetteerref22_Right.l0 k1 l0_0 (l0_0.length : Int) (wrap64 (x8_1+1)) l0_0) else (some false)) = some r:=H
           have A23:=Ak A230
           clear A230
           by_cases c24 : t168 = true
           ·subst c24
            have H1 : (gazetteerref22_Right.l0 k1 l0_0 (l0_0.length : Int) (wrap64 (x8_1+1)) l0_0) = some r:=by rw [if_pos rfl] at H;exact H
            clear H
            have H:=H1
            clear H1
            have H':=Ak H
            clear H
            have p165 : 0 ≤ (x8_1 : Int):=of_decide_eq_true (by first|(with_reducible assumption)|assumption)
            have q165 : x8_1 < (l0_0.length : Int):=of_decide_eq_true (by first|(with_reducible assumption)|assumption)
            obtain ⟨ad165,e165,hx165_0,hx165_1,hx165_2,hx165_3,hx165_4,hx165_5⟩:=at_T51 HR0_0.out x8_1 p165 q165
            cases e165
            replace hx165_0:=(HB.out.cell (World.block_lt_of_cell? w _ hx165_0)).trans hx165_0
            replace hx165_1:=(HB.out.cell (World.block_lt_of_cell? w _ hx165_1)).trans hx165_1
            replace hx165_2:=(HB.out.cell (World.block_lt_of_cell? w _ hx165_2)).trans hx165_2
            replace hx165_3:=(HB.out.cell (World.block_lt_of_cell? w _ hx165_3)).trans hx165_3
            replace hx165_4:=(HB.out.cell (World.block_lt_of_cell? w _ hx165_4)).trans hx165_4
            replace hx165_5:=(HB.out.cell (World.block_lt_of_cell? w _ hx165_5)).trans hx165_5
            replace p165:=eq_true p165
            replace q165:=eq_true q165
            try go_wp2_with (first|((with_reducible refine gate_dst (N:=4) rfl ?_);refine box_event ?hg (N:=4) ?hd (cs:=#[.int .u32 0,.int .i64 0,.int .i64 0,.int .i64 0,.int .i64 0,.int .i64 0]) (t:=51) ?hr ?_;(case hd => rfl);(case hg => rfl);(case hr => first|(go_simp;done)|(go_simp;rfl));intro gb166 hg w25 hbox hb;have n0_:=Ak (kB (g:=gb164) (o:=.cells #[.slice (some ad165) l0_0.length c0_0] 24 (0,0)) (by (with_reducible repeat (first|refine kN ?_ _|refine kD ?_|refine kA ?_ _));exact BK164.out) hb);have n1_:=Ak (below_step (by repeat (first|(with_reducible first|exact HB.out|apply bA|apply bN|apply bD|refine bS ?_ GE164.out)|exact HB.out)) hb);have n2_:=Ak (hbox);have n3_:=Ak ((by rw [hg];exact (below_size (by repeat (first|(with_reducible first|exact HB.out|apply bA|apply bN|apply bD|refine bS ?_ GE164.out)|exact HB.out))) : w.heap.size ≤ gb166));have n4_:=Ak ((by rw [hg];exact (below_size (by repeat (first|(with_reducible first|exact HB.out|apply bA|apply bN|apply bD|refine bS ?_ GE164.out)|exact HB.out))) : w.heap.size ≤ gb166));have n5_:=Ak ((by rw [hg];exact Nat.ne_of_lt (blk_lt (g:=gb164) (o:=.cells #[.slice (some ad165) l0_0.length c0_0] 24 (0,0)) (by (with_reducible repeat (first|refine kN ?_ _|refine kD ?_|refine kA ?_ _));exact BK164.out)) : gb164 ≠ gb166));have n6_:=Ak ((by rw [hg];exact Nat.ne_of_gt (blk_lt (g:=gb164) (o:=.cells #[.slice (some ad165) l0_0.length c0_0] 24 (0,0)) (by (with_reducible repeat (first|refine kN ?_ _|refine kD ?_|refine kA ?_ _));exact BK164.out)) : gb166 ≠ gb164));clear BK164;clear HB;have BK164:=n0_;have HB:=n1_;have BK166:=n2_;have GW166:=n3_;have GE166:=n4_;have NB164_166:=n5_;have NB166_164:=n6_;clear n0_ n1_ n2_ n3_ n4_ n5_ n6_;clear hb hbox hg;have hnb26:=NB166_164.out;have hnc26:=NB164_166.out;have hcz27_0 : w25.cell? ⟨gb166,0,none⟩ = some (.int .u32 0):=(kC BK166.out 0).trans rfl;have hcz27_1 : w25.cell? ⟨gb166,1,none⟩ = some (.int .i64 0):=(kC BK166.out 1).trans rfl;have hcz27_2 : w25.cell? ⟨gb166,2,none⟩ = some (.int .i64 0):=(kC BK166.out 2).trans rfl;have hcz27_3 : w25.cell? ⟨gb166,3,none⟩ = some (.int .i64 0):=(kC BK166.out 3).trans rfl;have hcz27_4 : w25.cell? ⟨gb166,4,none⟩ = some (.int .i64 0):=(kC BK166.out 4).trans rfl;have hcz27_5 : w25.cell? ⟨gb166,5,none⟩ = some (.int .i64 0):=(kC BK166.out 5).trans rfl;have hfz27_0:=blk_frozen BK166.out 0;have hfz27_1:=blk_frozen BK166.out 1;have hfz27_2:=blk_frozen BK166.out 2;have hfz27_3:=blk_frozen BK166.out 3;have hfz27_4:=blk_frozen BK166.out 4;have hfz27_5:=blk_frozen BK166.out 5))
            have n0_ : Aside0 (((((((w25.setCell ⟨gb166,0,none⟩ (.int .u32 ((rd_T51 l0_0 x8_1).f0))).setCell ⟨gb166,1,none⟩ (.int .i64 ((rd_T51 l0_0 x8_1).f1.f0))).setCell ⟨gb166,2,none⟩ (.int .i64 ((rd_T51 l0_0 x8_1).f1.f1))).setCell ⟨gb166,3,none⟩ (.int .i64 ((rd_T51 l0_0 x8_1).f1.f2))).setCell ⟨gb166,4,none⟩ (.int .i64 ((rd_T51 l0_0 x8_1).f1.f3))).setCell ⟨gb166,5,none⟩ (.int .i64 ((rd_T51 l0_0 x8_1).f2))).heap[gb164]? = some (.cells #[.slice (some ad165) l0_0.length c0_0] 24 (0,0))):=⟨by (with_reducible repeat (first|refine kN ?_ _|refine kD ?_|refine kA ?_ _));refine blk_far ?_ NB164_166.out _;(with_reducible repeat (first|refine kN ?_ _|refine kD ?_|refine kA ?_ _));refine blk_far ?_ NB164_166.out _;(with_reducible repeat (first|refine kN ?_ _|refine kD ?_|refine kA ?_ _));refine blk_far ?_ NB164_166.out _;(with_reducible repeat (first|refine kN ?_ _|refine kD ?_|refine kA ?_ _));refine blk_far ?_ NB164_166.out _;(with_reducible repeat (first|refine kN ?_ _|refine kD ?_|refine kA ?_ _));refine blk_far ?_ NB164_166.out _;(with_reducible repeat (first|refine kN ?_ _|refine kD ?_|refine kA ?_ _));refine blk_far ?_ NB164_166.out _;(with_reducible repeat (first|refine kN ?_ _|refine kD ?_|refine kA ?_ _));exact BK164.out⟩
            have n1_ : Aside0 (((((((w25.setCell ⟨gb166,0,none⟩ (.int .u32 ((rd_T51 l0_0 x8_1).f0))).setCell ⟨gb166,1,none⟩ (.int .i64 ((rd_T51 l0_0 x8_1).f1.f0))).setCell ⟨gb166,2,none⟩ (.int .i64 ((rd_T51 l0_0 x8_1).f1.f1))).setCell ⟨gb166,3,none⟩ (.int .i64 ((rd_T51 l0_0 x8_1).f1.f2))).setCell ⟨gb166,4,none⟩ (.int .i64 ((rd_T51 l0_0 x8_1).f1.f3))).setCell ⟨gb166,5,none⟩ (.int .i64 ((rd_T51 l0_0 x8_1).f2))).heap[gb166]? = some (.cells #[.int .u32 ((rd_T51 l0_0 x8_1).f0),.int .i64 ((rd_T51 l0_0 x8_1).f1.f0),.int .i64 ((rd_T51 l0_0 x8_1).f1.f1),.int .i64 ((rd_T51 l0_0 x8_1).f1.f2),.int .i64 ((rd_T51 l0_0 x8_1).f1.f3),.int .i64 ((rd_T51 l0_0 x8_1).f2)] 51 (0,0))):=⟨by (with_reducible repeat (first|refine kN ?_ _|refine kD ?_|refine kA ?_ _));refine blk_put (cs:=#[.int .u32 ((rd_T51 l0_0 x8_1).f0),.int .i64 ((rd_T51 l0_0 x8_1).f1.f0),.int .i64 ((rd_T51 l0_0 x8_1).f1.f1),.int .i64 ((rd_T51 l0_0 x8_1).f1.f2),.int .i64 ((rd_T51 l0_0 x8_1).f1.f3),.int .i64 0]) ?_ 5 _ rfl;(with_reducible repeat (first|refine kN ?_ _|refine kD ?_|refine kA ?_ _));refine blk_put (cs:=#[.int .u32 ((rd_T51 l0_0 x8_1).f0),.int .i64 ((rd_T51 l0_0 x8_1).f1.f0),.int .i64 ((rd_T51 l0_0 x8_1).f1.f1),.int .i64 ((rd_T51 l0_0 x8_1).f1.f2),.int .i64 0,.int .i64 0]) ?_ 4 _ rfl;(with_reducible repeat (first|refine kN ?_ _|refine kD ?_|refine kA ?_ _));refine blk_put (cs:=#[.int .u32 ((rd_T51 l0_0 x8_1).f0),.int .i64 ((rd_T51 l0_0 x8_1).f1.f0),.int .i64 ((rd_T51 l0_0 x8_1).f1.f1),.int .i64 0,.int .i64 0,.int .i64 0]) ?_ 3 _ rfl;(with_reducible repeat (first|refine kN ?_ _|refine kD ?_|refine kA ?_ _));refine blk_put (cs:=#[.int .u32 ((rd_T51 l0_0 x8_1).f0),.int .i64 ((rd_T51 l0_0 x8_1).f1.f0),.int .i64 0,.int .i64 0,.int .i64 0,.int .i64 0]) ?_ 2 _ rfl;(with_reducible repeat (first|refine kN ?_ _|refine kD ?_|refine kA ?_ _));refine blk_put (cs:=#[.int .u32 ((rd_T51 l0_0 x8_1).f0),.int .i64 0,.int .i64 0,.int .i64 0,.int .i64 0,.int .i64 0]) ?_ 1 _ rfl;(with_reducible repeat (first|refine kN ?_ _|refine kD ?_|refine kA ?_ _));refine blk_put (cs:=#[.int .u32 0,.int .i64 0,.int .i64 0,.int .i64 0,.int .i64 0,.int .i64 0]) ?_ 0 _ rfl;(with_reducible repeat (first|refine kN ?_ _|refine kD ?_|refine kA ?_ _));exact BK166.out⟩
            have n2_ : Aside0 (Below w.heap.size w ((((((w25.setCell ⟨gb166,0,none⟩ (.int .u32 ((rd_T51 l0_0 x8_1).f0))).setCell ⟨gb166,1,none⟩ (.int .i64 ((rd_T51 l0_0 x8_1).f1.f0))).setCell ⟨gb166,2,none⟩ (.int .i64 ((rd_T51 l0_0 x8_1).f1.f1))).setCell ⟨gb166,3,none⟩ (.int .i64 ((rd_T51 l0_0 x8_1).f1.f2))).setCell ⟨gb166,4,none⟩ (.int .i64 ((rd_T51 l0_0 x8_1).f1.f3))).setCell ⟨gb166,5,none⟩ (.int .i64 ((rd_T51 l0_0 x8_1).f2)))):=⟨by repeat (first|(with_reducible first|exact HB.out|apply bA|apply bN|apply bD|refine bS ?_ GE164.out|refine bS ?_ GE166.out)|exact HB.out)⟩
            (try clear BK164)
            (try clear BK166)
            (try clear HB)
            generalize ((((((w25.setCell ⟨gb166,0,none⟩ (.int .u32 ((rd_T51 l0_0 x8_1).f0))).setCell ⟨gb166,1,none⟩ (.int .i64 ((rd_T51 l0_0 x8_1).f1.f0))).setCell ⟨gb166,2,none⟩ (.int .i64 ((rd_T51 l0_0 x8_1).f1.f1))).setCell ⟨gb166,3,none⟩ (.int .i64 ((rd_T51 l0_0 x8_1).f1.f2))).setCell ⟨gb166,4,none⟩ (.int .i64 ((rd_T51 l0_0 x8_1).f1.f3))).setCell ⟨gb166,5,none⟩ (.int .i64 ((rd_T51 l0_0 x8_1).f2))) = w28 at n0_ n1_ n2_ ⊢
            have BK164:=n0_
            have BK166:=n1_
            have HB:=n2_
            clear n0_ n1_ n2_
            have n0_:=Ak (kD BK164.out)
            have n1_:=Ak (kD BK166.out)
            have n2_:=Ak (bD HB.out)
            clear BK164
            clear BK166
            clear HB
            have BK164:=n0_
            have BK166:=n1_
            have HB:=n2_
            clear n0_ n1_ n2_
            have p167 : 0 ≤ ((ji14) : Int):=of_decide_eq_true (by first|(with_reducible assumption)|assumption)
            have q167 : (ji14) < (l0_0.length : Int):=of_decide_eq_true (by first|(with_reducible assumption)|assumption)
            obtain ⟨ad167,e167,hx167_0,hx167_1,hx167_2,hx167_3,hx167_4,hx167_5⟩:=at_T51 HR0_0.out (ji14) p167 q167
            have hw167_5:=hx167_5
            have hw167_4:=hx167_4
            have hw167_3:=hx167_3
            have hw167_2:=hx167_2
            have hw167_1:=hx167_1
            have hw167_0:=hx167_0
            obtain rfl : ad165 = ad167:=(by injection e167)
            replace hx167_0:=(HB.out.cell (World.block_lt_of_cell? w _ hx167_0)).trans hx167_0
            replace hx167_1:=(HB.out.cell (World.block_lt_of_cell? w _ hx167_1)).trans hx167_1
            replace hx167_2:=(HB.out.cell (World.block_lt_of_cell? w _ hx167_2)).trans hx167_2
            replace hx167_3:=(HB.out.cell (World.block_lt_of_cell? w _ hx167_3)).trans hx167_3
            replace hx167_4:=(HB.out.cell (World.block_lt_of_cell? w _ hx167_4)).trans hx167_4
            replace hx167_5:=(HB.out.cell (World.block_lt_of_cell? w _ hx167_5)).trans hx167_5
            replace p167:=eq_true p167
            replace q167:=eq_true q167
            refine start_ (n:=25) (S:=fun w' => w'.cell? ⟨gb166,0,none⟩ = some (.int .u32 ((rd_T51 l0_0 x8_1).f0))∧w'.cell? ⟨gb166,1,none⟩ = some (.int .i64 ((rd_T51 l0_0 x8_1).f1.f0))∧w'.cell? ⟨gb166,2,none⟩ = some (.int .i64 ((rd_T51 l0_0 x8_1).f1.f1))∧w'.cell? ⟨gb166,3,none⟩ = some (.int .i64 ((rd_T51 l0_0 x8_1).f1.f2))∧w'.cell? ⟨gb166,4,none⟩ = some (.int .i64 ((rd_T51 l0_0 x8_1).f1.f3))∧w'.cell? ⟨gb166,5,none⟩ = some (.int .i64 ((rd_T51 l0_0 x8_1).f2))∧w'.cell? ⟨gb164,0,none⟩ = some (.slice (some ad165) l0_0.length c0_0)∧w'.cell? (ad165.add (((ji14)).toNat*6)) = some (.int .u32 ((rd_T51 l0_0 (ji14)).f0))∧w'.cell? ⟨(ad165.add (((ji14)).toNat*6)).block,(ad165.add (((ji14)).toNat*6)).off+1,none⟩ = some (.int .i64 ((rd_T51 l0_0 (ji14)).f1.f0))∧w'.cell? ⟨(ad165.add (((ji14)).toNat*6)).block,(ad165.add (((ji14)).toNat*6)).off+2,none⟩ = some (.int .i64 ((rd_T51 l0_0 (ji14)).f1.f1))∧w'.cell? ⟨(ad165.add (((ji14)).toNat*6)).block,(ad165.add (((ji14)).toNat*6)).off+3,none⟩ = some (.int .i64 ((rd_T51 l0_0 (ji14)).f1.f2))∧w'.cell? ⟨(ad165.add (((ji14)).toNat*6)).block,(ad165.add (((ji14)).toNat*6)).off+4,none⟩ = some (.int .i64 ((rd_T51 l0_0 (ji14)).f1.f3))∧w'.cell? ⟨(ad165.add (((ji14)).toNat*6)).block,(ad165.add (((ji14)).toNat*6)).off+5,none⟩ = some (.int .i64 ((rd_T51 l0_0 (ji14)).f2))) (ds:=[]) #[ff,ff,ff,ff,ff,ff,ff,ff,ff,ff,ff,ff,ff,ff,ff,ff,ff,ff,ff,ff,ff,ff,ff,ff,ff] (by kernel_rfl) rfl rfl ⟨(kC BK166.out 0).trans rfl,(kC BK166.out 1).trans rfl,(kC BK166.out 2).trans rfl,(kC BK166.out 3).trans rfl,(kC BK166.out 4).trans rfl,(kC BK166.out 5).trans rfl,(kC BK164.out 0).trans rfl,((HB.out.cell (World.block_lt_of_cell? w _ hw167_0)).trans hw167_0),((HB.out.cell (World.block_lt_of_cell? w _ hw167_1)).trans hw167_1),((HB.out.cell (World.block_lt_of_cell? w _ hw167_2)).trans hw167_2),((HB.out.cell (World.block_lt_of_cell? w _ hw167_3)).trans hw167_3),((HB.out.cell (World.block_lt_of_cell? w _ hw167_4)).trans hw167_4),((HB.out.cell (World.block_lt_of_cell? w _ hw167_5)).trans hw167_5)⟩ (fun hHeld => ?_);refine with_tabW gazetteerref22_Right.tab4 gazetteerref22_Right.bits4 (fun HT_ HW_ => ?_)
            generalize w28.drew = w29 at BK164 BK166 HB hx167_0 hx167_1 hx167_2 hx167_3 hx167_4 hx167_5 hHeld ⊢
            refine pure_ (i:=0) (N:=some 13) (v:=?_) (a':=?_) #[tt,ff,ff,ff,ff,ff,ff,ff,ff,ff,ff,ff,ff,ff,ff,ff,ff,ff,ff,ff,ff,ff,ff,ff,ff] rfl rfl (any_of HT_.out (by kernel_rfl)) (fun _ _ _ h => h) (Or.inl ⟨by rfl,?_⟩) ?_ ?_
            rotate_left
            ·intro w'
             go_simp
             with_reducible rfl
            rotate_left
            ·simp only [Act.put,sA,sZ,sS,i64_w,i32_w]
             rfl
            refine take_ (i:=1) (N:=some 14) (v:=?_) (a':=?_) #[tt,tt,ff,ff,ff,ff,ff,ff,ff,ff,ff,ff,ff,ff,ff,ff,ff,ff,ff,ff,ff,ff,ff,ff,ff] rfl rfl (take_ofW HT_.out HW_.out (by kernel_rfl)) (fun _ _ _ h => h) (Or.inl ⟨by rfl,?_⟩) hHeld ?_ ?_
            rotate_left
            ·rintro w' ⟨s0,s1,s2,s3,s4,s5,s6,s7,s8,s9,s10,s11,s12⟩
             go_simp
             with_reducible rfl
            rotate_left
            ·simp only [Act.put,sA,sZ,sS,i64_w,i32_w]
             rfl
            refine pure_ (i:=2) (N:=some 15) (v:=?_) (a':=?_) #[tt,tt,tt,ff,ff,ff,ff,ff,ff,ff,ff,ff,ff,ff,ff,ff,ff,ff,ff,ff,ff,ff,ff,ff,ff] rfl rfl (any_of HT_.out (by kernel_rfl)) (fun _ _ _ h => h) (Or.inl ⟨by rfl,?_⟩) ?_ ?_
            rotate_left
            ·intro w'
             go_simp
             with_reducible rfl
            rotate_left
            ·simp only [Act.put,sA,sZ,sS,i64_w,i32_w]
             rfl
            refine pure_ (i:=3) (N:=some 16) (v:=?_) (a':=?_) #[tt,tt,tt,tt,ff,ff,ff,ff,ff,ff,ff,ff,ff,ff,ff,ff,ff,ff,ff,ff,ff,ff,ff,ff,ff] rfl rfl (any_of HT_.out (by kernel_rfl)) (fun _ _ _ h => h) (Or.inl ⟨by rfl,?_⟩) ?_ ?_
            rotate_left
            ·intro w'
             go_simp
             with_reducible rfl
            rotate_left
            ·simp only [Act.put,sA,sZ,sS,i64_w,i32_w]
             rfl
            refine pure_ (i:=4) (N:=some 17) (v:=?_) (a':=?_) #[tt,tt,tt,tt,tt,ff,ff,ff,ff,ff,ff,ff,ff,ff,ff,ff,ff,ff,ff,ff,ff,ff,ff,ff,ff] rfl rfl (any_of HT_.out (by kernel_rfl)) (fun _ _ _ h => h) (Or.inl ⟨by rfl,?_⟩) ?_ ?_
            rotate_left
            ·intro w'
             go_simp
             with_reducible rfl
            rotate_left
            ·simp only [Act.put,sA,sZ,sS,i64_w,i32_w]
             rfl
            refine pure_ (i:=5) (N:=some 18) (v:=?_) (a':=?_) #[tt,tt,tt,tt,tt,tt,ff,ff,ff,ff,ff,ff,ff,ff,ff,ff,ff,ff,ff,ff,ff,ff,ff,ff,ff] rfl rfl (any_of HT_.out (by kernel_rfl)) (fun _ _ _ h => h) (Or.inl ⟨by rfl,?_⟩) ?_ ?_
            rotate_left
            ·intro w'
             go_simp
             with_reducible rfl
            rotate_left
            ·simp only [Act.put,sA,sZ,sS,i64_w,i32_w]
             rfl
            refine pure_ (i:=6) (N:=some 19) (v:=?_) (a':=?_) #[tt,tt,tt,tt,tt,tt,tt,ff,ff,ff,ff,ff,ff,ff,ff,ff,ff,ff,ff,ff,ff,ff,ff,ff,ff] rfl rfl (any_of HT_.out (by kernel_rfl)) (fun _ _ _ h => h) (Or.inl ⟨by rfl,?_⟩) ?_ ?_
            rotate_left
            ·intro w'
             go_simp
             with_reducible rfl
            rotate_left
            ·simp only [Act.put,sA,sZ,sS,i64_w,i32_w]
             rfl
            refine pure_ (i:=7) (N:=some 20) (v:=?_) (a':=?_) #[tt,tt,tt,tt,tt,tt,tt,tt,ff,ff,ff,ff,ff,ff,ff,ff,ff,ff,ff,ff,ff,ff,ff,ff,ff] rfl rfl (any_of HT_.out (by kernel_rfl)) (fun _ _ _ h => h) (Or.inl ⟨by rfl,?_⟩) ?_ ?_
            rotate_left
            ·intro w'
             go_simp
             with_reducible rfl
            rotate_left
            ·simp only [Act.put,sA,sZ,sS,i64_w,i32_w]
             rfl
            refine pure_ (i:=9) (N:=some 22) (v:=?_) (a':=?_) #[tt,tt,tt,tt,tt,tt,tt,tt,ff,tt,ff,ff,ff,ff,ff,ff,ff,ff,ff,ff,ff,ff,ff,ff,ff] rfl rfl (any_of HT_.out (by kernel_rfl)) (fun _ _ _ h => h) (Or.inl ⟨by rfl,?_⟩) ?_ ?_
            rotate_left
            ·intro w'
             go_simp
             with_reducible rfl
            rotate_left
            ·simp only [Act.put,sA,sZ,sS,i64_w,i32_w]
             rfl
            refine pure_ (i:=10) (N:=some 23) (v:=?_) (a':=?_) #[tt,tt,tt,tt,tt,tt,tt,tt,ff,tt,tt,ff,ff,ff,ff,ff,ff,ff,ff,ff,ff,ff,ff,ff,ff] rfl rfl (any_of HT_.out (by kernel_rfl)) (fun _ _ _ h => h) (Or.inl ⟨by rfl,?_⟩) ?_ ?_
            rotate_left
            ·intro w'
             go_simp
             with_reducible rfl
            rotate_left
            ·simp only [Act.put,sA,sZ,sS,i64_w,i32_w]
             rfl
            refine pure_ (i:=14) (N:=some 27) (v:=?_) (a':=?_) #[tt,tt,tt,tt,tt,tt,tt,tt,ff,tt,tt,ff,ff,ff,tt,ff,ff,ff,ff,ff,ff,ff,ff,ff,ff] rfl rfl (any_of HT_.out (by kernel_rfl)) (fun _ _ _ h => h) (Or.inl ⟨by rfl,?_⟩) ?_ ?_
            rotate_left
            ·intro w'
             go_simp
             with_reducible rfl
            rotate_left
            ·simp only [Act.put,sA,sZ,sS,i64_w,i32_w]
             rfl
            refine take_ (i:=8) (N:=some 21) (v:=?_) (a':=?_) #[tt,tt,tt,tt,tt,tt,tt,tt,tt,tt,tt,ff,ff,ff,tt,ff,ff,ff,ff,ff,ff,ff,ff,ff,ff] rfl rfl (take_ofW HT_.out HW_.out (by kernel_rfl)) (fun _ _ _ h => h) (Or.inl ⟨by rfl,?_⟩) hHeld ?_ ?_
            rotate_left
            ·rintro w' ⟨s0,s1,s2,s3,s4,s5,s6,s7,s8,s9,s10,s11,s12⟩
             go_simp
             with_reducible rfl
            rotate_left
            ·simp only [Act.put,sA,sZ,sS,i64_w,i32_w]
             rfl
            refine pure_ (i:=11) (N:=some 24) (v:=?_) (a':=?_) #[tt,tt,tt,tt,tt,tt,tt,tt,tt,tt,tt,tt,ff,ff,tt,ff,ff,ff,ff,ff,ff,ff,ff,ff,ff] rfl rfl (any_of HT_.out (by kernel_rfl)) (fun _ _ _ h => h) (Or.inl ⟨by rfl,?_⟩) ?_ ?_
            rotate_left
            ·intro w'
             go_simp
             with_reducible rfl
            rotate_left
            ·simp only [Act.put,sA,sZ,sS,i64_w,i32_w]
             rfl
            refine pure_ (i:=12) (N:=some 25) (v:=?_) (a':=?_) #[tt,tt,tt,tt,tt,tt,tt,tt,tt,tt,tt,tt,tt,ff,tt,ff,ff,ff,ff,ff,ff,ff,ff,ff,ff] rfl rfl (any_of HT_.out (by kernel_rfl)) (fun _ _ _ h => h) (Or.inl ⟨by rfl,?_⟩) ?_ ?_
            rotate_left
            ·intro w'
             go_simp
             with_reducible rfl
            rotate_left
            ·simp only [Act.put,sA,sZ,sS,i64_w,i32_w]
             rfl
            refine take_ (i:=13) (N:=some 26) (v:=?_) (a':=?_) #[tt,tt,tt,tt,tt,tt,tt,tt,tt,tt,tt,tt,tt,tt,tt,ff,ff,ff,ff,ff,ff,ff,ff,ff,ff] rfl rfl (take_ofW HT_.out HW_.out (by kernel_rfl)) (fun _ _ _ h => h) (Or.inl ⟨by rfl,?_⟩) hHeld ?_ ?_
            rotate_left
            ·rintro w' ⟨s0,s1,s2,s3,s4,s5,s6,s7,s8,s9,s10,s11,s12⟩
             go_simp
             with_reducible rfl
            rotate_left
            ·simp only [Act.put,sA,sZ,sS,i64_w,i32_w]
             rfl
            refine take_ (i:=15) (N:=some 28) (v:=?_) (a':=?_) #[tt,tt,tt,tt,tt,tt,tt,tt,tt,tt,tt,tt,tt,tt,tt,tt,ff,ff,ff,ff,ff,ff,ff,ff,ff] rfl rfl (take_ofW HT_.out HW_.out (by kernel_rfl)) (fun _ _ _ h => h) (Or.inl ⟨by rfl,?_⟩) hHeld ?_ ?_
            rotate_left
            ·rintro w' ⟨s0,s1,s2,s3,s4,s5,s6,s7,s8,s9,s10,s11,s12⟩
             go_simp
             with_reducible rfl
            rotate_left
            ·simp only [Act.put,sA,sZ,sS,i64_w,i32_w]
             rfl
            refine pure_ (i:=16) (N:=some 29) (v:=?_) (a':=?_) #[tt,tt,tt,tt,tt,tt,tt,tt,tt,tt,tt,tt,tt,tt,tt,tt,tt,ff,ff,ff,ff,ff,ff,ff,ff] rfl rfl (any_of HT_.out (by kernel_rfl)) (fun _ _ _ h => h) (Or.inl ⟨by rfl,?_⟩) ?_ ?_
            rotate_left
            ·intro w'
             go_simp
             with_reducible rfl
            rotate_left
            ·simp only [Act.put,sA,sZ,sS,i64_w,i32_w]
             rfl
            refine pure_ (i:=17) (N:=some 30) (v:=?_) (a':=?_) #[tt,tt,tt,tt,tt,tt,tt,tt,tt,tt,tt,tt,tt,tt,tt,tt,tt,tt,ff,ff,ff,ff,ff,ff,ff] rfl rfl (any_of HT_.out (by kernel_rfl)) (fun _ _ _ h => h) (Or.inl ⟨by rfl,?_⟩) ?_ ?_
            rotate_left
            ·intro w'
             go_simp
             with_reducible rfl
            rotate_left
            ·simp only [Act.put,sA,sZ,sS,i64_w,i32_w]
             rfl
            refine pure_ (i:=18) (N:=some 31) (v:=?_) (a':=?_) #[tt,tt,tt,tt,tt,tt,tt,tt,tt,tt,tt,tt,tt,tt,tt,tt,tt,tt,tt,ff,ff,ff,ff,ff,ff] rfl rfl (any_of HT_.out (by kernel_rfl)) (fun _ _ _ h => h) (Or.inl ⟨by rfl,?_⟩) ?_ ?_
            rotate_left
            ·intro w'
             go_simp
             with_reducible rfl
            rotate_left
            ·simp only [Act.put,sA,sZ,sS,i64_w,i32_w]
             rfl
            refine pure_ (i:=19) (N:=some 32) (v:=?_) (a':=?_) #[tt,tt,tt,tt,tt,tt,tt,tt,tt,tt,tt,tt,tt,tt,tt,tt,tt,tt,tt,tt,ff,ff,ff,ff,ff] rfl rfl (any_of HT_.out (by kernel_rfl)) (fun _ _ _ h => h) (Or.inl ⟨by rfl,?_⟩) ?_ ?_
            rotate_left
            ·intro w'
             go_simp
             with_reducible rfl
            rotate_left
            ·simp only [Act.put,sA,sZ,sS,i64_w,i32_w]
             rfl
            refine pure_ (i:=20) (N:=some 33) (v:=?_) (a':=?_) #[tt,tt,tt,tt,tt,tt,tt,tt,tt,tt,tt,tt,tt,tt,tt,tt,tt,tt,tt,tt,tt,ff,ff,ff,ff] rfl rfl (any_of HT_.out (by kernel_rfl)) (fun _ _ _ h => h) (Or.inl ⟨by rfl,?_⟩) ?_ ?_
            rotate_left
            ·intro w'
             go_simp
             with_reducible rfl
            rotate_left
            ·simp only [Act.put,sA,sZ,sS,i64_w,i32_w]
             rfl
            refine take_ (i:=21) (N:=some 34) (v:=?_) (a':=?_) #[tt,tt,tt,tt,tt,tt,tt,tt,tt,tt,tt,tt,tt,tt,tt,tt,tt,tt,tt,tt,tt,tt,ff,ff,ff] rfl rfl (take_ofW HT_.out HW_.out (by kernel_rfl)) (fun _ _ _ h => h) (Or.inl ⟨by rfl,?_⟩) hHeld ?_ ?_
            rotate_left
            ·rintro w' ⟨s0,s1,s2,s3,s4,s5,s6,s7,s8,s9,s10,s11,s12⟩
             go_simp
             with_reducible rfl
            rotate_left
            ·simp only [Act.put,sA,sZ,sS,i64_w,i32_w]
             rfl
            refine one_ (i:=22) (N:=some 35) #[tt,tt,tt,tt,tt,tt,tt,tt,tt,tt,tt,tt,tt,tt,tt,tt,tt,tt,tt,tt,tt,tt,tt,ff,ff] rfl rfl (one_of HT_.out (by kernel_rfl)) (by decide) (fun K hK => ?_)
            refine goes_ Try.func26 (by kernel_rfl) rfl #[.agg #[.int .i64 ((rd_T51 l0_0 x8_1).f1.f0),.int .i64 ((rd_T51 l0_0 x8_1).f1.f1),.int .i64 ((rd_T51 l0_0 x8_1).f1.f2),.int .i64 ((rd_T51 l0_0 x8_1).f1.f3)]] (by rfl) rfl rfl (by (try simp only [List.map_toArray,List.map_cons,List.map_nil]);first|done|rfl|(simp only [List.length_drop,List.length_take];rfl)) ?_
            with_reducible refine (gazetteerref09_Box.calls ((rd_T51 l0_0 x8_1).f1.f0) ((rd_T51 l0_0 x8_1).f1.f1) ((rd_T51 l0_0 x8_1).f1.f2) ((rd_T51 l0_0 x8_1).f1.f3) true _ A23.out).mono ?_
            rintro e w30 ⟨rfl,hb⟩
            refine ⟨_,rfl,?_⟩
            have n0_:=Ak (kB (g:=gb164) (o:=.cells #[.slice (some ad165) l0_0.length c0_0] 24 (0,0)) (by (with_reducible repeat (first|refine kN ?_ _|refine kD ?_|refine kA ?_ _));exact BK164.out) hb)
            have n1_:=Ak (kB (g:=gb166) (o:=.cells #[.int .u32 ((rd_T51 l0_0 x8_1).f0),.int .i64 ((rd_T51 l0_0 x8_1).f1.f0),.int .i64 ((rd_T51 l0_0 x8_1).f1.f1),.int .i64 ((rd_T51 l0_0 x8_1).f1.f2),.int .i64 ((rd_T51 l0_0 x8_1).f1.f3),.int .i64 ((rd_T51 l0_0 x8_1).f2)] 51 (0,0)) (by (with_reducible repeat (first|refine kN ?_ _|refine kD ?_|refine kA ?_ _));exact BK166.out) hb)
            have n2_:=Ak (below_step (by repeat (first|(with_reducible first|exact HB.out|apply bA|apply bN|apply bD|refine bS ?_ GE164.out|refine bS ?_ GE166.out)|exact HB.out)) hb)
            clear BK164
            clear BK166
            clear HB
            have BK164:=n0_
            have BK166:=n1_
            have HB:=n2_
            clear n0_ n1_ n2_
            (try clear hb)
            (try clear hb2)
            (try clear hk)
            (try clear hi)
            refine hK.out _ _ ⟨(kC BK166.out 0).trans rfl,(kC BK166.out 1).trans rfl,(kC BK166.out 2).trans rfl,(kC BK166.out 3).trans rfl,(kC BK166.out 4).trans rfl,(kC BK166.out 5).trans rfl,(kC BK164.out 0).trans rfl,((HB.out.cell (World.block_lt_of_cell? w _ hw167_0)).trans hw167_0),((HB.out.cell (World.block_lt_of_cell? w _ hw167_1)).trans hw167_1),((HB.out.cell (World.block_lt_of_cell? w _ hw167_2)).trans hw167_2),((HB.out.cell (World.block_lt_of_cell? w _ hw167_3)).trans hw167_3),((HB.out.cell (World.block_lt_of_cell? w _ hw167_4)).trans hw167_4),((HB.out.cell (World.block_lt_of_cell? w _ hw167_5)).trans hw167_5)⟩ (fun hHeld => ?_)
            clear hK K
            refine norm_ (a':=?_) ?_ ?_
            rotate_left
            ·show Act.put _ (some 35) _ = _
             simp only [Act.put,sA,sZ,sS,i64_w,i32_w]
             rfl
            refine pure_ (i:=23) (N:=some 36) (v:=?_) (a':=?_) #[tt,tt,tt,tt,tt,tt,tt,tt,tt,tt,tt,tt,tt,tt,tt,tt,tt,tt,tt,tt,tt,tt,tt,tt,ff] rfl rfl (any_of HT_.out (by kernel_rfl)) (fun _ _ _ h => h) (Or.inl ⟨by rfl,?_⟩) ?_ ?_
            rotate_left
            ·intro w'
             go_simp
             with_reducible rfl
            rotate_left
            ·simp only [Act.put,sA,sZ,sS,i64_w,i32_w]
             rfl
            refine pure_ (i:=24) (N:=some 37) (v:=?_) (a':=?_) #[tt,tt,tt,tt,tt,tt,tt,tt,tt,tt,tt,tt,tt,tt,tt,tt,tt,tt,tt,tt,tt,tt,tt,tt,tt] rfl rfl (any_of HT_.out (by kernel_rfl)) (fun _ _ _ h => h) (Or.inl ⟨by rfl,?_⟩) ?_ ?_
            rotate_left
            ·intro w'
             go_simp
             with_reducible rfl
            rotate_left
            ·simp only [Act.put,sA,sZ,sS,i64_w,i32_w]
             rfl
            refine done_ (done_of HT_.out (by kernel_rfl)) ?_
            try go_wp2
            go_roundg k1
            case measure => have:=HK1.out;omega
            case rel => exact ⟨(wrap64 (x8_1+1)),(by first|rfl|(simp;done)|(simp [*];done)),H',⟨by have:=HK1.out;omega⟩,⟨by (with_reducible repeat (first|refine kN ?_ _|refine kD ?_|refine kA ?_ _));exact BK164.out⟩,⟨by repeat (first|(with_reducible first|exact HB.out|apply bA|apply bN|apply bD|refine bS ?_ GE164.out|refine bS ?_ GE166.out)|exact HB.out)⟩⟩
           ·replace c24:=Bool.eq_false_iff.mpr c24
            subst c24
            have H1 : (some false) = some r:=by rw [if_neg (show ¬ (false = true) by decide)] at H;exact H
            clear H
            have H:=H1
            clear H1
            obtain rfl:=Option.some.inj H
            have p165 : 0 ≤ (x8_1 : Int):=of_decide_eq_true (by first|(with_reducible assumption)|assumption)
            have q165 : x8_1 < (l0_0.length : Int):=of_decide_eq_true (by first|(with_reducible assumption)|assumption)
            obtain ⟨ad165,e165,hx165_0,hx165_1,hx165_2,hx165_3,hx165_4,hx165_5⟩:=at_T51 HR0_0.out x8_1 p165 q165
            cases e165
            replace hx165_0:=(HB.out.cell (World.block_lt_of_cell? w _ hx165_0)).trans hx165_0
            replace hx165_1:=(HB.out.cell (World.block_lt_of_cell? w _ hx165_1)).trans hx165_1
            replace hx165_2:=(HB.out.cell (World.block_lt_of_cell? w _ hx165_2)).trans hx165_2
            replace hx165_3:=(HB.out.cell (World.block_lt_of_cell? w _ hx165_3)).trans hx165_3
            replace hx165_4:=(HB.out.cell (World.block_lt_of_cell? w _ hx165_4)).trans hx165_4
            replace hx165_5:=(HB.out.cell (World.block_lt_of_cell? w _ hx165_5)).trans hx165_5
            replace p165:=eq_true p165
            replace q165:=eq_true q165
            try go_wp2_with (first|((with_reducible refine gate_dst (N:=4) rfl ?_);refine box_event ?hg (N:=4) ?hd (cs:=#[.int .u32 0,.int .i64 0,.int .i64 0,.int .i64 0,.int .i64 0,.int .i64 0]) (t:=51) ?hr ?_;(case hd => rfl);(case hg => rfl);(case hr => first|(go_simp;done)|(go_simp;rfl));intro gb166 hg w31 hbox hb;have n0_:=Ak (kB (g:=gb164) (o:=.cells #[.slice (some ad165) l0_0.length c0_0] 24 (0,0)) (by (with_reducible repeat (first|refine kN ?_ _|refine kD ?_|refine kA ?_ _));exact BK164.out) hb);have n1_:=Ak (below_step (by repeat (first|(with_reducible first|exact HB.out|apply bA|apply bN|apply bD|refine bS ?_ GE164.out)|exact HB.out)) hb);have n2_:=Ak (hbox);have n3_:=Ak ((by rw [hg];exact (below_size (by repeat (first|(with_reducible first|exact HB.out|apply bA|apply bN|apply bD|refine bS ?_ GE164.out)|exact HB.out))) : w.heap.size ≤ gb166));have n4_:=Ak ((by rw [hg];exact (below_size (by repeat (first|(with_reducible first|exact HB.out|apply bA|apply bN|apply bD|refine bS ?_ GE164.out)|exact HB.out))) : w.heap.size ≤ gb166));have n5_:=Ak ((by rw [hg];exact Nat.ne_of_lt (blk_lt (g:=gb164) (o:=.cells #[.slice (some ad165) l0_0.length c0_0] 24 (0,0)) (by (with_reducible repeat (first|refine kN ?_ _|refine kD ?_|refine kA ?_ _));exact BK164.out)) : gb164 ≠ gb166));have n6_:=Ak ((by rw [hg];exact Nat.ne_of_gt (blk_lt (g:=gb164) (o:=.cells #[.slice (some ad165) l0_0.length c0_0] 24 (0,0)) (by (with_reducible repeat (first|refine kN ?_ _|refine kD ?_|refine kA ?_ _));exact BK164.out)) : gb166 ≠ gb164));clear BK164;clear HB;have BK164:=n0_;have HB:=n1_;have BK166:=n2_;have GW166:=n3_;have GE166:=n4_;have NB164_166:=n5_;have NB166_164:=n6_;clear n0_ n1_ n2_ n3_ n4_ n5_ n6_;clear hb hbox hg;have hnb32:=NB166_164.out;have hnc32:=NB164_166.out;have hcz33_0 : w31.cell? ⟨gb166,0,none⟩ = some (.int .u32 0):=(kC BK166.out 0).trans rfl;have hcz33_1 : w31.cell? ⟨gb166,1,none⟩ = some (.int .i64 0):=(kC BK166.out 1).trans rfl;have hcz33_2 : w31.cell? ⟨gb166,2,none⟩ = some (.int .i64 0):=(kC BK166.out 2).trans rfl;have hcz33_3 : w31.cell? ⟨gb166,3,none⟩ = some (.int .i64 0):=(kC BK166.out 3).trans rfl;have hcz33_4 : w31.cell? ⟨gb166,4,none⟩ = some (.int .i64 0):=(kC BK166.out 4).trans rfl;have hcz33_5 : w31.cell? ⟨gb166,5,none⟩ = some (.int .i64 0):=(kC BK166.out 5).trans rfl;have hfz33_0:=blk_frozen BK166.out 0;have hfz33_1:=blk_frozen BK166.out 1;have hfz33_2:=blk_frozen BK166.out 2;have hfz33_3:=blk_frozen BK166.out 3;have hfz33_4:=blk_frozen BK166.out 4;have hfz33_5:=blk_frozen BK166.out 5))
            have n0_ : Aside0 (((((((w31.setCell ⟨gb166,0,none⟩ (.int .u32 ((rd_T51 l0_0 x8_1).f0))).setCell ⟨gb166,1,none⟩ (.int .i64 ((rd_T51 l0_0 x8_1).f1.f0))).setCell ⟨gb166,2,none⟩ (.int .i64 ((rd_T51 l0_0 x8_1).f1.f1))).setCell ⟨gb166,3,none⟩ (.int .i64 ((rd_T51 l0_0 x8_1).f1.f2))).setCell ⟨gb166,4,none⟩ (.int .i64 ((rd_T51 l0_0 x8_1).f1.f3))).setCell ⟨gb166,5,none⟩ (.int .i64 ((rd_T51 l0_0 x8_1).f2))).heap[gb164]? = some (.cells #[.slice (some ad165) l0_0.length c0_0] 24 (0,0))):=⟨by (with_reducible repeat (first|refine kN ?_ _|refine kD ?_|refine kA ?_ _));refine blk_far ?_ NB164_166.out _;(with_reducible repeat (first|refine kN ?_ _|refine kD ?_|refine kA ?_ _));refine blk_far ?_ NB164_166.out _;(with_reducible repeat (first|refine kN ?_ _|refine kD ?_|refine kA ?_ _));refine blk_far ?_ NB164_166.out _;(with_reducible repeat (first|refine kN ?_ _|refine kD ?_|refine kA ?_ _));refine blk_far ?_ NB164_166.out _;(with_reducible repeat (first|refine kN ?_ _|refine kD ?_|refine kA ?_ _));refine blk_far ?_ NB164_166.out _;(with_reducible repeat (first|refine kN ?_ _|refine kD ?_|refine kA ?_ _));refine blk_far ?_ NB164_166.out _;(with_reducible repeat (first|refine kN ?_ _|refine kD ?_|refine kA ?_ _));exact BK164.out⟩
            have n1_ : Aside0 (((((((w31.setCell ⟨gb166,0,none⟩ (.int .u32 ((rd_T51 l0_0 x8_1).f0))).setCell ⟨gb166,1,none⟩ (.int .i64 ((rd_T51 l0_0 x8_1).f1.f0))).setCell ⟨gb166,2,none⟩ (.int .i64 ((rd_T51 l0_0 x8_1).f1.f1))).setCell ⟨gb166,3,none⟩ (.int .i64 ((rd_T51 l0_0 x8_1).f1.f2))).setCell ⟨gb166,4,none⟩ (.int .i64 ((rd_T51 l0_0 x8_1).f1.f3))).setCell ⟨gb166,5,none⟩ (.int .i64 ((rd_T51 l0_0 x8_1).f2))).heap[gb166]? = some (.cells #[.int .u32 ((rd_T51 l0_0 x8_1).f0),.int .i64 ((rd_T51 l0_0 x8_1).f1.f0),.int .i64 ((rd_T51 l0_0 x8_1).f1.f1),.int .i64 ((rd_T51 l0_0 x8_1).f1.f2),.int .i64 ((rd_T51 l0_0 x8_1).f1.f3),.int .i64 ((rd_T51 l0_0 x8_1).f2)] 51 (0,0))):=⟨by (with_reducible repeat (first|refine kN ?_ _|refine kD ?_|refine kA ?_ _));refine blk_put (cs:=#[.int .u32 ((rd_T51 l0_0 x8_1).f0),.int .i64 ((rd_T51 l0_0 x8_1).f1.f0),.int .i64 ((rd_T51 l0_0 x8_1).f1.f1),.int .i64 ((rd_T51 l0_0 x8_1).f1.f2),.int .i64 ((rd_T51 l0_0 x8_1).f1.f3),.int .i64 0]) ?_ 5 _ rfl;(with_reducible repeat (first|refine kN ?_ _|refine kD ?_|refine kA ?_ _));refine blk_put (cs:=#[.int .u32 ((rd_T51 l0_0 x8_1).f0),.int .i64 ((rd_T51 l0_0 x8_1).f1.f0),.int .i64 ((rd_T51 l0_0 x8_1).f1.f1),.int .i64 ((rd_T51 l0_0 x8_1).f1.f2),.int .i64 0,.int .i64 0]) ?_ 4 _ rfl;(with_reducible repeat (first|refine kN ?_ _|refine kD ?_|refine kA ?_ _));refine blk_put (cs:=#[.int .u32 ((rd_T51 l0_0 x8_1).f0),.int .i64 ((rd_T51 l0_0 x8_1).f1.f0),.int .i64 ((rd_T51 l0_0 x8_1).f1.f1),.int .i64 0,.int .i64 0,.int .i64 0]) ?_ 3 _ rfl;(with_reducible repeat (first|refine kN ?_ _|refine kD ?_|refine kA ?_ _));refine blk_put (cs:=#[.int .u32 ((rd_T51 l0_0 x8_1).f0),.int .i64 ((rd_T51 l0_0 x8_1).f1.f0),.int .i64 0,.int .i64 0,.int .i64 0,.int .i64 0]) ?_ 2 _ rfl;(with_reducible repeat (first|refine kN ?_ _|refine kD ?_|refine kA ?_ _));refine blk_put (cs:=#[.int .u32 ((rd_T51 l0_0 x8_1).f0),.int .i64 0,.int .i64 0,.int .i64 0,.int .i64 0,.int .i64 0]) ?_ 1 _ rfl;(with_reducible repeat (first|refine kN ?_ _|refine kD ?_|refine kA ?_ _));refine blk_put (cs:=#[.int .u32 0,.int .i64 0,.int .i64 0,.int .i64 0,.int .i64 0,.int .i64 0]) ?_ 0 _ rfl;(with_reducible repeat (first|refine kN ?_ _|refine kD ?_|refine kA ?_ _));exact BK166.out⟩
            have n2_ : Aside0 (Below w.heap.size w ((((((w31.setCell ⟨gb166,0,none⟩ (.int .u32 ((rd_T51 l0_0 x8_1).f0))).setCell ⟨gb166,1,none⟩ (.int .i64 ((rd_T51 l0_0 x8_1).f1.f0))).setCell ⟨gb166,2,none⟩ (.int .i64 ((rd_T51 l0_0 x8_1).f1.f1))).setCell ⟨gb166,3,none⟩ (.int .i64 ((rd_T51 l0_0 x8_1).f1.f2))).setCell ⟨gb166,4,none⟩ (.int .i64 ((rd_T51 l0_0 x8_1).f1.f3))).setCell ⟨gb166,5,none⟩ (.int .i64 ((rd_T51 l0_0 x8_1).f2)))):=⟨by repeat (first|(with_reducible first|exact HB.out|apply bA|apply bN|apply bD|refine bS ?_ GE164.out|refine bS ?_ GE166.out)|exact HB.out)⟩
            (try clear BK164)
            (try clear BK166)
            (try clear HB)
            generalize ((((((w31.setCell ⟨gb166,0,none⟩ (.int .u32 ((rd_T51 l0_0 x8_1).f0))).setCell ⟨gb166,1,none⟩ (.int .i64 ((rd_T51 l0_0 x8_1).f1.f0))).setCell ⟨gb166,2,none⟩ (.int .i64 ((rd_T51 l0_0 x8_1).f1.f1))).setCell ⟨gb166,3,none⟩ (.int .i64 ((rd_T51 l0_0 x8_1).f1.f2))).setCell ⟨gb166,4,none⟩ (.int .i64 ((rd_T51 l0_0 x8_1).f1.f3))).setCell ⟨gb166,5,none⟩ (.int .i64 ((rd_T51 l0_0 x8_1).f2))) = w34 at n0_ n1_ n2_ ⊢
            have BK164:=n0_
            have BK166:=n1_
            have HB:=n2_
            clear n0_ n1_ n2_
            have n0_:=Ak (kD BK164.out)
            have n1_:=Ak (kD BK166.out)
            have n2_:=Ak (bD HB.out)
            clear BK164
            clear BK166
            clear HB
            have BK164:=n0_
            have BK166:=n1_
            have HB:=n2_
            clear n0_ n1_ n2_
            have p167 : 0 ≤ ((ji14) : Int):=of_decide_eq_true (by first|(with_reducible assumption)|assumption)
            have q167 : (ji14) < (l0_0.length : Int):=of_decide_eq_true (by first|(with_reducible assumption)|assumption)
            obtain ⟨ad167,e167,hx167_0,hx167_1,hx167_2,hx167_3,hx167_4,hx167_5⟩:=at_T51 HR0_0.out (ji14) p167 q167
            have hw167_5:=hx167_5
            have hw167_4:=hx167_4
            have hw167_3:=hx167_3
            have hw167_2:=hx167_2
            have hw167_1:=hx167_1
            have hw167_0:=hx167_0
            obtain rfl : ad165 = ad167:=(by injection e167)
            replace hx167_0:=(HB.out.cell (World.block_lt_of_cell? w _ hx167_0)).trans hx167_0
            replace hx167_1:=(HB.out.cell (World.block_lt_of_cell? w _ hx167_1)).trans hx167_1
            replace hx167_2:=(HB.out.cell (World.block_lt_of_cell? w _ hx167_2)).trans hx167_2
            replace hx167_3:=(HB.out.cell (World.block_lt_of_cell? w _ hx167_3)).trans hx167_3
            replace hx167_4:=(HB.out.cell (World.block_lt_of_cell? w _ hx167_4)).trans hx167_4
            replace hx167_5:=(HB.out.cell (World.block_lt_of_cell? w _ hx167_5)).trans hx167_5
            replace p167:=eq_true p167
            replace q167:=eq_true q167
            refine start_ (n:=25) (S:=fun w' => w'.cell? ⟨gb166,0,none⟩ = some (.int .u32 ((rd_T51 l0_0 x8_1).f0))∧w'.cell? ⟨gb166,1,none⟩ = some (.int .i64 ((rd_T51 l0_0 x8_1).f1.f0))∧w'.cell? ⟨gb166,2,none⟩ = some (.int .i64 ((rd_T51 l0_0 x8_1).f1.f1))∧w'.cell? ⟨gb166,3,none⟩ = some (.int .i64 ((rd_T51 l0_0 x8_1).f1.f2))∧w'.cell? ⟨gb166,4,none⟩ = some (.int .i64 ((rd_T51 l0_0 x8_1).f1.f3))∧w'.cell? ⟨gb166,5,none⟩ = some (.int .i64 ((rd_T51 l0_0 x8_1).f2))∧w'.cell? ⟨gb164,0,none⟩ = some (.slice (some ad165) l0_0.length c0_0)∧w'.cell? (ad165.add (((ji14)).toNat*6)) = some (.int .u32 ((rd_T51 l0_0 (ji14)).f0))∧w'.cell? ⟨(ad165.add (((ji14)).toNat*6)).block,(ad165.add (((ji14)).toNat*6)).off+1,none⟩ = some (.int .i64 ((rd_T51 l0_0 (ji14)).f1.f0))∧w'.cell? ⟨(ad165.add (((ji14)).toNat*6)).block,(ad165.add (((ji14)).toNat*6)).off+2,none⟩ = some (.int .i64 ((rd_T51 l0_0 (ji14)).f1.f1))∧w'.cell? ⟨(ad165.add (((ji14)).toNat*6)).block,(ad165.add (((ji14)).toNat*6)).off+3,none⟩ = some (.int .i64 ((rd_T51 l0_0 (ji14)).f1.f2))∧w'.cell? ⟨(ad165.add (((ji14)).toNat*6)).block,(ad165.add (((ji14)).toNat*6)).off+4,none⟩ = some (.int .i64 ((rd_T51 l0_0 (ji14)).f1.f3))∧w'.cell? ⟨(ad165.add (((ji14)).toNat*6)).block,(ad165.add (((ji14)).toNat*6)).off+5,none⟩ = some (.int .i64 ((rd_T51 l0_0 (ji14)).f2))) (ds:=[]) #[ff,ff,ff,ff,ff,ff,ff,ff,ff,ff,ff,ff,ff,ff,ff,ff,ff,ff,ff,ff,ff,ff,ff,ff,ff] (by kernel_rfl) rfl rfl ⟨(kC BK166.out 0).trans rfl,(kC BK166.out 1).trans rfl,(kC BK166.out 2).trans rfl,(kC BK166.out 3).trans rfl,(kC BK166.out 4).trans rfl,(kC BK166.out 5).trans rfl,(kC BK164.out 0).trans rfl,((HB.out.cell (World.block_lt_of_cell? w _ hw167_0)).trans hw167_0),((HB.out.cell (World.block_lt_of_cell? w _ hw167_1)).trans hw167_1),((HB.out.cell (World.block_lt_of_cell? w _ hw167_2)).trans hw167_2),((HB.out.cell (World.block_lt_of_cell? w _ hw167_3)).trans hw167_3),((HB.out.cell (World.block_lt_of_cell? w _ hw167_4)).trans hw167_4),((HB.out.cell (World.block_lt_of_cell? w _ hw167_5)).trans hw167_5)⟩ (fun hHeld => ?_);refine with_tabW gazetteerref22_Right.tab4 gazetteerref22_Right.bits4 (fun HT_ HW_ => ?_)
            generalize w34.drew = w35 at BK164 BK166 HB hx167_0 hx167_1 hx167_2 hx167_3 hx167_4 hx167_5 hHeld ⊢
            refine pure_ (i:=0) (N:=some 13) (v:=?_) (a':=?_) #[tt,ff,ff,ff,ff,ff,ff,ff,ff,ff,ff,ff,ff,ff,ff,ff,ff,ff,ff,ff,ff,ff,ff,ff,ff] rfl rfl (any_of HT_.out (by kernel_rfl)) (fun _ _ _ h => h) (Or.inl ⟨by rfl,?_⟩) ?_ ?_
            rotate_left
            ·intro w'
             go_simp
             with_reducible rfl
            rotate_left
            ·simp only [Act.put,sA,sZ,sS,i64_w,i32_w]
             rfl
            refine take_ (i:=1) (N:=some 14) (v:=?_) (a':=?_) #[tt,tt,ff,ff,ff,ff,ff,ff,ff,ff,ff,ff,ff,ff,ff,ff,ff,ff,ff,ff,ff,ff,ff,ff,ff] rfl rfl (take_ofW HT_.out HW_.out (by kernel_rfl)) (fun _ _ _ h => h) (Or.inl ⟨by rfl,?_⟩) hHeld ?_ ?_
            rotate_left
            ·rintro w' ⟨s0,s1,s2,s3,s4,s5,s6,s7,s8,s9,s10,s11,s12⟩
             go_simp
             with_reducible rfl
            rotate_left
            ·simp only [Act.put,sA,sZ,sS,i64_w,i32_w]
             rfl
            refine pure_ (i:=2) (N:=some 15) (v:=?_) (a':=?_) #[tt,tt,tt,ff,ff,ff,ff,ff,ff,ff,ff,ff,ff,ff,ff,ff,ff,ff,ff,ff,ff,ff,ff,ff,ff] rfl rfl (any_of HT_.out (by kernel_rfl)) (fun _ _ _ h => h) (Or.inl ⟨by rfl,?_⟩) ?_ ?_
            rotate_left
            ·intro w'
             go_simp
             with_reducible rfl
            rotate_left
            ·simp only [Act.put,sA,sZ,sS,i64_w,i32_w]
             rfl
            refine pure_ (i:=3) (N:=some 16) (v:=?_) (a':=?_) #[tt,tt,tt,tt,ff,ff,ff,ff,ff,ff,ff,ff,ff,ff,ff,ff,ff,ff,ff,ff,ff,ff,ff,ff,ff] rfl rfl (any_of HT_.out (by kernel_rfl)) (fun _ _ _ h => h) (Or.inl ⟨by rfl,?_⟩) ?_ ?_
            rotate_left
            ·intro w'
             go_simp
             with_reducible rfl
            rotate_left
            ·simp only [Act.put,sA,sZ,sS,i64_w,i32_w]
             rfl
            refine pure_ (i:=4) (N:=some 17) (v:=?_) (a':=?_) #[tt,tt,tt,tt,tt,ff,ff,ff,ff,ff,ff,ff,ff,ff,ff,ff,ff,ff,ff,ff,ff,ff,ff,ff,ff] rfl rfl (any_of HT_.out (by kernel_rfl)) (fun _ _ _ h => h) (Or.inl ⟨by rfl,?_⟩) ?_ ?_
            rotate_left
            ·intro w'
             go_simp
             with_reducible rfl
            rotate_left
            ·simp only [Act.put,sA,sZ,sS,i64_w,i32_w]
             rfl
            refine pure_ (i:=5) (N:=some 18) (v:=?_) (a':=?_) #[tt,tt,tt,tt,tt,tt,ff,ff,ff,ff,ff,ff,ff,ff,ff,ff,ff,ff,ff,ff,ff,ff,ff,ff,ff] rfl rfl (any_of HT_.out (by kernel_rfl)) (fun _ _ _ h => h) (Or.inl ⟨by rfl,?_⟩) ?_ ?_
            rotate_left
            ·intro w'
             go_simp
             with_reducible rfl
            rotate_left
            ·simp only [Act.put,sA,sZ,sS,i64_w,i32_w]
             rfl
            refine pure_ (i:=6) (N:=some 19) (v:=?_) (a':=?_) #[tt,tt,tt,tt,tt,tt,tt,ff,ff,ff,ff,ff,ff,ff,ff,ff,ff,ff,ff,ff,ff,ff,ff,ff,ff] rfl rfl (any_of HT_.out (by kernel_rfl)) (fun _ _ _ h => h) (Or.inl ⟨by rfl,?_⟩) ?_ ?_
            rotate_left
            ·intro w'
             go_simp
             with_reducible rfl
            rotate_left
            ·simp only [Act.put,sA,sZ,sS,i64_w,i32_w]
             rfl
            refine pure_ (i:=7) (N:=some 20) (v:=?_) (a':=?_) #[tt,tt,tt,tt,tt,tt,tt,tt,ff,ff,ff,ff,ff,ff,ff,ff,ff,ff,ff,ff,ff,ff,ff,ff,ff] rfl rfl (any_of HT_.out (by kernel_rfl)) (fun _ _ _ h => h) (Or.inl ⟨by rfl,?_⟩) ?_ ?_
            rotate_left
            ·intro w'
             go_simp
             with_reducible rfl
            rotate_left
            ·simp only [Act.put,sA,sZ,sS,i64_w,i32_w]
             rfl
            refine pure_ (i:=9) (N:=some 22) (v:=?_) (a':=?_) #[tt,tt,tt,tt,tt,tt,tt,tt,ff,tt,ff,ff,ff,ff,ff,ff,ff,ff,ff,ff,ff,ff,ff,ff,ff] rfl rfl (any_of HT_.out (by kernel_rfl)) (fun _ _ _ h => h) (Or.inl ⟨by rfl,?_⟩) ?_ ?_
            rotate_left
            ·intro w'
             go_simp
             with_reducible rfl
            rotate_left
            ·simp only [Act.put,sA,sZ,sS,i64_w,i32_w]
             rfl
            refine pure_ (i:=10) (N:=some 23) (v:=?_) (a':=?_) #[tt,tt,tt,tt,tt,tt,tt,tt,ff,tt,tt,ff,ff,ff,ff,ff,ff,ff,ff,ff,ff,ff,ff,ff,ff] rfl rfl (any_of HT_.out (by kernel_rfl)) (fun _ _ _ h => h) (Or.inl ⟨by rfl,?_⟩) ?_ ?_
            rotate_left
            ·intro w'
             go_simp
             with_reducible rfl
            rotate_left
            ·simp only [Act.put,sA,sZ,sS,i64_w,i32_w]
             rfl
            refine pure_ (i:=14) (N:=some 27) (v:=?_) (a':=?_) #[tt,tt,tt,tt,tt,tt,tt,tt,ff,tt,tt,ff,ff,ff,tt,ff,ff,ff,ff,ff,ff,ff,ff,ff,ff] rfl rfl (any_of HT_.out (by kernel_rfl)) (fun _ _ _ h => h) (Or.inl ⟨by rfl,?_⟩) ?_ ?_
            rotate_left
            ·intro w'
             go_simp
             with_reducible rfl
            rotate_left
            ·simp only [Act.put,sA,sZ,sS,i64_w,i32_w]
             rfl
            refine take_ (i:=8) (N:=some 21) (v:=?_) (a':=?_) #[tt,tt,tt,tt,tt,tt,tt,tt,tt,tt,tt,ff,ff,ff,tt,ff,ff,ff,ff,ff,ff,ff,ff,ff,ff] rfl rfl (take_ofW HT_.out HW_.out (by kernel_rfl)) (fun _ _ _ h => h) (Or.inl ⟨by rfl,?_⟩) hHeld ?_ ?_
            rotate_left
            ·rintro w' ⟨s0,s1,s2,s3,s4,s5,s6,s7,s8,s9,s10,s11,s12⟩
             go_simp
             with_reducible rfl
            rotate_left
            ·simp only [Act.put,sA,sZ,sS,i64_w,i32_w]
             rfl
            refine pure_ (i:=11) (N:=some 24) (v:=?_) (a':=?_) #[tt,tt,tt,tt,tt,tt,tt,tt,tt,tt,tt,tt,ff,ff,tt,ff,ff,ff,ff,ff,ff,ff,ff,ff,ff] rfl rfl (any_of HT_.out (by kernel_rfl)) (fun _ _ _ h => h) (Or.inl ⟨by rfl,?_⟩) ?_ ?_
            rotate_left
            ·intro w'
             go_simp
             with_reducible rfl
            rotate_left
            ·simp only [Act.put,sA,sZ,sS,i64_w,i32_w]
             rfl
            refine pure_ (i:=12) (N:=some 25) (v:=?_) (a':=?_) #[tt,tt,tt,tt,tt,tt,tt,tt,tt,tt,tt,tt,tt,ff,tt,ff,ff,ff,ff,ff,ff,ff,ff,ff,ff] rfl rfl (any_of HT_.out (by kernel_rfl)) (fun _ _ _ h => h) (Or.inl ⟨by rfl,?_⟩) ?_ ?_
            rotate_left
            ·intro w'
             go_simp
             with_reducible rfl
            rotate_left
            ·simp only [Act.put,sA,sZ,sS,i64_w,i32_w]
             rfl
            refine take_ (i:=13) (N:=some 26) (v:=?_) (a':=?_) #[tt,tt,tt,tt,tt,tt,tt,tt,tt,tt,tt,tt,tt,tt,tt,ff,ff,ff,ff,ff,ff,ff,ff,ff,ff] rfl rfl (take_ofW HT_.out HW_.out (by kernel_rfl)) (fun _ _ _ h => h) (Or.inl ⟨by rfl,?_⟩) hHeld ?_ ?_
            rotate_left
            ·rintro w' ⟨s0,s1,s2,s3,s4,s5,s6,s7,s8,s9,s10,s11,s12⟩
             go_simp
             with_reducible rfl
            rotate_left
            ·simp only [Act.put,sA,sZ,sS,i64_w,i32_w]
             rfl
            refine take_ (i:=15) (N:=some 28) (v:=?_) (a':=?_) #[tt,tt,tt,tt,tt,tt,tt,tt,tt,tt,tt,tt,tt,tt,tt,tt,ff,ff,ff,ff,ff,ff,ff,ff,ff] rfl rfl (take_ofW HT_.out HW_.out (by kernel_rfl)) (fun _ _ _ h => h) (Or.inl ⟨by rfl,?_⟩) hHeld ?_ ?_
            rotate_left
            ·rintro w' ⟨s0,s1,s2,s3,s4,s5,s6,s7,s8,s9,s10,s11,s12⟩
             go_simp
             with_reducible rfl
            rotate_left
            ·simp only [Act.put,sA,sZ,sS,i64_w,i32_w]
             rfl
            refine pure_ (i:=16) (N:=some 29) (v:=?_) (a':=?_) #[tt,tt,tt,tt,tt,tt,tt,tt,tt,tt,tt,tt,tt,tt,tt,tt,tt,ff,ff,ff,ff,ff,ff,ff,ff] rfl rfl (any_of HT_.out (by kernel_rfl)) (fun _ _ _ h => h) (Or.inl ⟨by rfl,?_⟩) ?_ ?_
            rotate_left
            ·intro w'
             go_simp
             with_reducible rfl
            rotate_left
            ·simp only [Act.put,sA,sZ,sS,i64_w,i32_w]
             rfl
            refine pure_ (i:=17) (N:=some 30) (v:=?_) (a':=?_) #[tt,tt,tt,tt,tt,tt,tt,tt,tt,tt,tt,tt,tt,tt,tt,tt,tt,tt,ff,ff,ff,ff,ff,ff,ff] rfl rfl (any_of HT_.out (by kernel_rfl)) (fun _ _ _ h => h) (Or.inl ⟨by rfl,?_⟩) ?_ ?_
            rotate_left
            ·intro w'
             go_simp
             with_reducible rfl
            rotate_left
            ·simp only [Act.put,sA,sZ,sS,i64_w,i32_w]
             rfl
            refine pure_ (i:=18) (N:=some 31) (v:=?_) (a':=?_) #[tt,tt,tt,tt,tt,tt,tt,tt,tt,tt,tt,tt,tt,tt,tt,tt,tt,tt,tt,ff,ff,ff,ff,ff,ff] rfl rfl (any_of HT_.out (by kernel_rfl)) (fun _ _ _ h => h) (Or.inl ⟨by rfl,?_⟩) ?_ ?_
            rotate_left
            ·intro w'
             go_simp
             with_reducible rfl
            rotate_left
            ·simp only [Act.put,sA,sZ,sS,i64_w,i32_w]
             rfl
            refine pure_ (i:=19) (N:=some 32) (v:=?_) (a':=?_) #[tt,tt,tt,tt,tt,tt,tt,tt,tt,tt,tt,tt,tt,tt,tt,tt,tt,tt,tt,tt,ff,ff,ff,ff,ff] rfl rfl (any_of HT_.out (by kernel_rfl)) (fun _ _ _ h => h) (Or.inl ⟨by rfl,?_⟩) ?_ ?_
            rotate_left
            ·intro w'
             go_simp
             with_reducible rfl
            rotate_left
            ·simp only [Act.put,sA,sZ,sS,i64_w,i32_w]
             rfl
            refine pure_ (i:=20) (N:=some 33) (v:=?_) (a':=?_) #[tt,tt,tt,tt,tt,tt,tt,tt,tt,tt,tt,tt,tt,tt,tt,tt,tt,tt,tt,tt,tt,ff,ff,ff,ff] rfl rfl (any_of HT_.out (by kernel_rfl)) (fun _ _ _ h => h) (Or.inl ⟨by rfl,?_⟩) ?_ ?_
            rotate_left
            ·intro w'
             go_simp
             with_reducible rfl
            rotate_left
            ·simp only [Act.put,sA,sZ,sS,i64_w,i32_w]
             rfl
            refine take_ (i:=21) (N:=some 34) (v:=?_) (a':=?_) #[tt,tt,tt,tt,tt,tt,tt,tt,tt,tt,tt,tt,tt,tt,tt,tt,tt,tt,tt,tt,tt,tt,ff,ff,ff] rfl rfl (take_ofW HT_.out HW_.out (by kernel_rfl)) (fun _ _ _ h => h) (Or.inl ⟨by rfl,?_⟩) hHeld ?_ ?_
            rotate_left
            ·rintro w' ⟨s0,s1,s2,s3,s4,s5,s6,s7,s8,s9,s10,s11,s12⟩
             go_simp
             with_reducible rfl
            rotate_left
            ·simp only [Act.put,sA,sZ,sS,i64_w,i32_w]
             rfl
            refine one_ (i:=22) (N:=some 35) #[tt,tt,tt,tt,tt,tt,tt,tt,tt,tt,tt,tt,tt,tt,tt,tt,tt,tt,tt,tt,tt,tt,tt,ff,ff] rfl rfl (one_of HT_.out (by kernel_rfl)) (by decide) (fun K hK => ?_)
            refine goes_ Try.func26 (by kernel_rfl) rfl #[.agg #[.int .i64 ((rd_T51 l0_0 x8_1).f1.f0),.int .i64 ((rd_T51 l0_0 x8_1).f1.f1),.int .i64 ((rd_T51 l0_0 x8_1).f1.f2),.int .i64 ((rd_T51 l0_0 x8_1).f1.f3)]] (by rfl) rfl rfl (by (try simp only [List.map_toArray,List.map_cons,List.map_nil]);first|done|rfl|(simp only [List.length_drop,List.length_take];rfl)) ?_
            with_reducible refine (gazetteerref09_Box.calls ((rd_T51 l0_0 x8_1).f1.f0) ((rd_T51 l0_0 x8_1).f1.f1) ((rd_T51 l0_0 x8_1).f1.f2) ((rd_T51 l0_0 x8_1).f1.f3) false _ A23.out).mono ?_
            rintro e w36 ⟨rfl,hb⟩
            refine ⟨_,rfl,?_⟩
            have n0_:=Ak (kB (g:=gb164) (o:=.cells #[.slice (some ad165) l0_0.length c0_0] 24 (0,0)) (by (with_reducible repeat (first|refine kN ?_ _|refine kD ?_|refine kA ?_ _));exact BK164.out) hb)
            have n1_:=Ak (kB (g:=gb166) (o:=.cells #[.int .u32 ((rd_T51 l0_0 x8_1).f0),.int .i64 ((rd_T51 l0_0 x8_1).f1.f0),.int .i64 ((rd_T51 l0_0 x8_1).f1.f1),.int .i64 ((rd_T51 l0_0 x8_1).f1.f2),.int .i64 ((rd_T51 l0_0 x8_1).f1.f3),.int .i64 ((rd_T51 l0_0 x8_1).f2)] 51 (0,0)) (by (with_reducible repeat (first|refine kN ?_ _|refine kD ?_|refine kA ?_ _));exact BK166.out) hb)
            have n2_:=Ak (below_step (by repeat (first|(with_reducible first|exact HB.out|apply bA|apply bN|apply bD|refine bS ?_ GE164.out|refine bS ?_ GE166.out)|exact HB.out)) hb)
            clear BK164
            clear BK166
            clear HB
            have BK164:=n0_
            have BK166:=n1_
            have HB:=n2_
            clear n0_ n1_ n2_
            (try clear hb)
            (try clear hb2)
            (try clear hk)
            (try clear hi)
            refine hK.out _ _ ⟨(kC BK166.out 0).trans rfl,(kC BK166.out 1).trans rfl,(kC BK166.out 2).trans rfl,(kC BK166.out 3).trans rfl,(kC BK166.out 4).trans rfl,(kC BK166.out 5).trans rfl,(kC BK164.out 0).trans rfl,((HB.out.cell (World.block_lt_of_cell? w _ hw167_0)).trans hw167_0),((HB.out.cell (World.block_lt_of_cell? w _ hw167_1)).trans hw167_1),((HB.out.cell (World.block_lt_of_cell? w _ hw167_2)).trans hw167_2),((HB.out.cell (World.block_lt_of_cell? w _ hw167_3)).trans hw167_3),((HB.out.cell (World.block_lt_of_cell? w _ hw167_4)).trans hw167_4),((HB.out.cell (World.block_lt_of_cell? w _ hw167_5)).trans hw167_5)⟩ (fun hHeld => ?_)
            clear hK K
            refine norm_ (a':=?_) ?_ ?_
            rotate_left
            ·show Act.put _ (some 35) _ = _
             simp only [Act.put,sA,sZ,sS,i64_w,i32_w]
             rfl
            refine pure_ (i:=23) (N:=some 36) (v:=?_) (a':=?_) #[tt,tt,tt,tt,tt,tt,tt,tt,tt,tt,tt,tt,tt,tt,tt,tt,tt,tt,tt,tt,tt,tt,tt,tt,ff] rfl rfl (any_of HT_.out (by kernel_rfl)) (fun _ _ _ h => h) (Or.inl ⟨by rfl,?_⟩) ?_ ?_
            rotate_left
            ·intro w'
             go_simp
             with_reducible rfl
            rotate_left
            ·simp only [Act.put,sA,sZ,sS,i64_w,i32_w]
             rfl
            refine pure_ (i:=24) (N:=some 37) (v:=?_) (a':=?_) #[tt,tt,tt,tt,tt,tt,tt,tt,tt,tt,tt,tt,tt,tt,tt,tt,tt,tt,tt,tt,tt,tt,tt,tt,tt] rfl rfl (any_of HT_.out (by kernel_rfl)) (fun _ _ _ h => h) (Or.inl ⟨by rfl,?_⟩) ?_ ?_
            rotate_left
            ·intro w'
             go_simp
             with_reducible rfl
            rotate_left
            ·simp only [Act.put,sA,sZ,sS,i64_w,i32_w]
             rfl
            refine done_ (done_of HT_.out (by kernel_rfl)) ?_
            try go_wp2
            go_ret
            exact ⟨by first|rfl|(simp [errW_none,errW_some] <;> rfl)|(simp only [← hji14];first|rfl|(simp [errW_none,errW_some] <;> rfl))|(simp [*,errW_none,errW_some] <;> rfl),by repeat (first|(with_reducible first|exact HB.out|apply bA|apply bN|apply bD|refine bS ?_ GE164.out|refine bS ?_ GE166.out)|exact HB.out)⟩
         ·rw [if_neg c16] at H
          exact absurd H (by simp)
        ·rw [if_neg c15] at H
         exact absurd H (by simp)
       ·rw [if_neg c13] at H
        have c13b0 : decide (0 < x8_1) = false:=decide_eq_false c13
        clear c13
        replace H:=Option.bind_eq_some_iff.mp H
        obtain ⟨t169,A370,H⟩:=H
        replace H : (if t169 = true then (gazetteerref22_Right.l0 k1 l0_0 (l0_0.length : Int) (wrap64 (x8_1+1)) l0_0) else (some false)) = some r:=H
        have A37:=Ak A370
        clear A370
        by_cases c38 : t169 = true
        ·subst c38
         have H1 : (gazetteerref22_Right.l0 k1 l0_0 (l0_0.length : Int) (wrap64 (x8_1+1)) l0_0) = some r:=by rw [if_pos rfl] at H;exact H
         clear H
         have H:=H1
         clear H1
         have H':=Ak H
         clear H
         have p165 : 0 ≤ (x8_1 : Int):=of_decide_eq_true (by first|(with_reducible assumption)|assumption)
         have q165 : x8_1 < (l0_0.length : Int):=of_decide_eq_true (by first|(with_reducible assumption)|assumption)
         obtain ⟨ad165,e165,hx165_0,hx165_1,hx165_2,hx165_3,hx165_4,hx165_5⟩:=at_T51 HR0_0.out x8_1 p165 q165
         cases e165
         replace hx165_0:=(HB.out.cell (World.block_lt_of_cell? w _ hx165_0)).trans hx165_0
         replace hx165_1:=(HB.out.cell (World.block_lt_of_cell? w _ hx165_1)).trans hx165_1
         replace hx165_2:=(HB.out.cell (World.block_lt_of_cell? w _ hx165_2)).trans hx165_2
         replace hx165_3:=(HB.out.cell (World.block_lt_of_cell? w _ hx165_3)).trans hx165_3
         replace hx165_4:=(HB.out.cell (World.block_lt_of_cell? w _ hx165_4)).trans hx165_4
         replace hx165_5:=(HB.out.cell (World.block_lt_of_cell? w _ hx165_5)).trans hx165_5
         replace p165:=eq_true p165
         replace q165:=eq_true q165
         try go_wp2_with (first|((with_reducible refine gate_dst (N:=4) rfl ?_);refine box_event ?hg (N:=4) ?hd (cs:=#[.int .u32 0,.int .i64 0,.int .i64 0,.int .i64 0,.int .i64 0,.int .i64 0]) (t:=51) ?hr ?_;(case hd => rfl);(case hg => rfl);(case hr => first|(go_simp;done)|(go_simp;rfl));intro gb166 hg w39 hbox hb;have n0_:=Ak (kB (g:=gb164) (o:=.cells #[.slice (some ad165) l0_0.length c0_0] 24 (0,0)) (by (with_reducible repeat (first|refine kN ?_ _|refine kD ?_|refine kA ?_ _));exact BK164.out) hb);have n1_:=Ak (below_step (by repeat (first|(with_reducible first|exact HB.out|apply bA|apply bN|apply bD|refine bS ?_ GE164.out)|exact HB.out)) hb);have n2_:=Ak (hbox);have n3_:=Ak ((by rw [hg];exact (below_size (by repeat (first|(with_reducible first|exact HB.out|apply bA|apply bN|apply bD|refine bS ?_ GE164.out)|exact HB.out))) : w.heap.size ≤ gb166));have n4_:=Ak ((by rw [hg];exact (below_size (by repeat (first|(with_reducible first|exact HB.out|apply bA|apply bN|apply bD|refine bS ?_ GE164.out)|exact HB.out))) : w.heap.size ≤ gb166));have n5_:=Ak ((by rw [hg];exact Nat.ne_of_lt (blk_lt (g:=gb164) (o:=.cells #[.slice (some ad165) l0_0.length c0_0] 24 (0,0)) (by (with_reducible repeat (first|refine kN ?_ _|refine kD ?_|refine kA ?_ _));exact BK164.out)) : gb164 ≠ gb166));have n6_:=Ak ((by rw [hg];exact Nat.ne_of_gt (blk_lt (g:=gb164) (o:=.cells #[.slice (some ad165) l0_0.length c0_0] 24 (0,0)) (by (with_reducible repeat (first|refine kN ?_ _|refine kD ?_|refine kA ?_ _));exact BK164.out)) : gb166 ≠ gb164));clear BK164;clear HB;have BK164:=n0_;have HB:=n1_;have BK166:=n2_;have GW166:=n3_;have GE166:=n4_;have NB164_166:=n5_;have NB166_164:=n6_;clear n0_ n1_ n2_ n3_ n4_ n5_ n6_;clear hb hbox hg;have hnb40:=NB166_164.out;have hnc40:=NB164_166.out;have hcz41_0 : w39.cell? ⟨gb166,0,none⟩ = some (.int .u32 0):=(kC BK166.out 0).trans rfl;have hcz41_1 : w39.cell? ⟨gb166,1,none⟩ = some (.int .i64 0):=(kC BK166.out 1).trans rfl;have hcz41_2 : w39.cell? ⟨gb166,2,none⟩ = some (.int .i64 0):=(kC BK166.out 2).trans rfl;have hcz41_3 : w39.cell? ⟨gb166,3,none⟩ = some (.int .i64 0):=(kC BK166.out 3).trans rfl;have hcz41_4 : w39.cell? ⟨gb166,4,none⟩ = some (.int .i64 0):=(kC BK166.out 4).trans rfl;have hcz41_5 : w39.cell? ⟨gb166,5,none⟩ = some (.int .i64 0):=(kC BK166.out 5).trans rfl;have hfz41_0:=blk_frozen BK166.out 0;have hfz41_1:=blk_frozen BK166.out 1;have hfz41_2:=blk_frozen BK166.out 2;have hfz41_3:=blk_frozen BK166.out 3;have hfz41_4:=blk_frozen BK166.out 4;have hfz41_5:=blk_frozen BK166.out 5))
         have n0_ : Aside0 (((((((w39.setCell ⟨gb166,0,none⟩ (.int .u32 ((rd_T51 l0_0 x8_1).f0))).setCell ⟨gb166,1,none⟩ (.int .i64 ((rd_T51 l0_0 x8_1).f1.f0))).setCell ⟨gb166,2,none⟩ (.int .i64 ((rd_T51 l0_0 x8_1).f1.f1))).setCell ⟨gb166,3,none⟩ (.int .i64 ((rd_T51 l0_0 x8_1).f1.f2))).setCell ⟨gb166,4,none⟩ (.int .i64 ((rd_T51 l0_0 x8_1).f1.f3))).setCell ⟨gb166,5,none⟩ (.int .i64 ((rd_T51 l0_0 x8_1).f2))).heap[gb164]? = some (.cells #[.slice (some ad165) l0_0.length c0_0] 24 (0,0))):=⟨by (with_reducible repeat (first|refine kN ?_ _|refine kD ?_|refine kA ?_ _));refine blk_far ?_ NB164_166.out _;(with_reducible repeat (first|refine kN ?_ _|refine kD ?_|refine kA ?_ _));refine blk_far ?_ NB164_166.out _;(with_reducible repeat (first|refine kN ?_ _|refine kD ?_|refine kA ?_ _));refine blk_far ?_ NB164_166.out _;(with_reducible repeat (first|refine kN ?_ _|refine kD ?_|refine kA ?_ _));refine blk_far ?_ NB164_166.out _;(with_reducible repeat (first|refine kN ?_ _|refine kD ?_|refine kA ?_ _));refine blk_far ?_ NB164_166.out _;(with_reducible repeat (first|refine kN ?_ _|refine kD ?_|refine kA ?_ _));refine blk_far ?_ NB164_166.out _;(with_reducible repeat (first|refine kN ?_ _|refine kD ?_|refine kA ?_ _));exact BK164.out⟩
         have n1_ : Aside0 (((((((w39.setCell ⟨gb166,0,none⟩ (.int .u32 ((rd_T51 l0_0 x8_1).f0))).setCell ⟨gb166,1,none⟩ (.int .i64 ((rd_T51 l0_0 x8_1).f1.f0))).setCell ⟨gb166,2,none⟩ (.int .i64 ((rd_T51 l0_0 x8_1).f1.f1))).setCell ⟨gb166,3,none⟩ (.int .i64 ((rd_T51 l0_0 x8_1).f1.f2))).setCell ⟨gb166,4,none⟩ (.int .i64 ((rd_T51 l0_0 x8_1).f1.f3))).setCell ⟨gb166,5,none⟩ (.int .i64 ((rd_T51 l0_0 x8_1).f2))).heap[gb166]? = some (.cells #[.int .u32 ((rd_T51 l0_0 x8_1).f0),.int .i64 ((rd_T51 l0_0 x8_1).f1.f0),.int .i64 ((rd_T51 l0_0 x8_1).f1.f1),.int .i64 ((rd_T51 l0_0 x8_1).f1.f2),.int .i64 ((rd_T51 l0_0 x8_1).f1.f3),.int .i64 ((rd_T51 l0_0 x8_1).f2)] 51 (0,0))):=⟨by (with_reducible repeat (first|refine kN ?_ _|refine kD ?_|refine kA ?_ _));refine blk_put (cs:=#[.int .u32 ((rd_T51 l0_0 x8_1).f0),.int .i64 ((rd_T51 l0_0 x8_1).f1.f0),.int .i64 ((rd_T51 l0_0 x8_1).f1.f1),.int .i64 ((rd_T51 l0_0 x8_1).f1.f2),.int .i64 ((rd_T51 l0_0 x8_1).f1.f3),.int .i64 0]) ?_ 5 _ rfl;(with_reducible repeat (first|refine kN ?_ _|refine kD ?_|refine kA ?_ _));refine blk_put (cs:=#[.int .u32 ((rd_T51 l0_0 x8_1).f0),.int .i64 ((rd_T51 l0_0 x8_1).f1.f0),.int .i64 ((rd_T51 l0_0 x8_1).f1.f1),.int .i64 ((rd_T51 l0_0 x8_1).f1.f2),.int .i64 0,.int .i64 0]) ?_ 4 _ rfl;(with_reducible repeat (first|refine kN ?_ _|refine kD ?_|refine kA ?_ _));refine blk_put (cs:=#[.int .u32 ((rd_T51 l0_0 x8_1).f0),.int .i64 ((rd_T51 l0_0 x8_1).f1.f0),.int .i64 ((rd_T51 l0_0 x8_1).f1.f1),.int .i64 0,.int .i64 0,.int .i64 0]) ?_ 3 _ rfl;(with_reducible repeat (first|refine kN ?_ _|refine kD ?_|refine kA ?_ _));refine blk_put (cs:=#[.int .u32 ((rd_T51 l0_0 x8_1).f0),.int .i64 ((rd_T51 l0_0 x8_1).f1.f0),.int .i64 0,.int .i64 0,.int .i64 0,.int .i64 0]) ?_ 2 _ rfl;(with_reducible repeat (first|refine kN ?_ _|refine kD ?_|refine kA ?_ _));refine blk_put (cs:=#[.int .u32 ((rd_T51 l0_0 x8_1).f0),.int .i64 0,.int .i64 0,.int .i64 0,.int .i64 0,.int .i64 0]) ?_ 1 _ rfl;(with_reducible repeat (first|refine kN ?_ _|refine kD ?_|refine kA ?_ _));refine blk_put (cs:=#[.int .u32 0,.int .i64 0,.int .i64 0,.int .i64 0,.int .i64 0,.int .i64 0]) ?_ 0 _ rfl;(with_reducible repeat (first|refine kN ?_ _|refine kD ?_|refine kA ?_ _));exact BK166.out⟩
         have n2_ : Aside0 (Below w.heap.size w ((((((w39.setCell ⟨gb166,0,none⟩ (.int .u32 ((rd_T51 l0_0 x8_1).f0))).setCell ⟨gb166,1,none⟩ (.int .i64 ((rd_T51 l0_0 x8_1).f1.f0))).setCell ⟨gb166,2,none⟩ (.int .i64 ((rd_T51 l0_0 x8_1).f1.f1))).setCell ⟨gb166,3,none⟩ (.int .i64 ((rd_T51 l0_0 x8_1).f1.f2))).setCell ⟨gb166,4,none⟩ (.int .i64 ((rd_T51 l0_0 x8_1).f1.f3))).setCell ⟨gb166,5,none⟩ (.int .i64 ((rd_T51 l0_0 x8_1).f2)))):=⟨by repeat (first|(with_reducible first|exact HB.out|apply bA|apply bN|apply bD|refine bS ?_ GE164.out|refine bS ?_ GE166.out)|exact HB.out)⟩
         (try clear BK164)
         (try clear BK166)
         (try clear HB)
         generalize ((((((w39.setCell ⟨gb166,0,none⟩ (.int .u32 ((rd_T51 l0_0 x8_1).f0))).setCell ⟨gb166,1,none⟩ (.int .i64 ((rd_T51 l0_0 x8_1).f1.f0))).setCell ⟨gb166,2,none⟩ (.int .i64 ((rd_T51 l0_0 x8_1).f1.f1))).setCell ⟨gb166,3,none⟩ (.int .i64 ((rd_T51 l0_0 x8_1).f1.f2))).setCell ⟨gb166,4,none⟩ (.int .i64 ((rd_T51 l0_0 x8_1).f1.f3))).setCell ⟨gb166,5,none⟩ (.int .i64 ((rd_T51 l0_0 x8_1).f2))) = w42 at n0_ n1_ n2_ ⊢
         have BK164:=n0_
         have BK166:=n1_
         have HB:=n2_
         clear n0_ n1_ n2_
         have n0_:=Ak (kD BK164.out)
         have n1_:=Ak (kD BK166.out)
         have n2_:=Ak (bD HB.out)
         clear BK164
         clear BK166
         clear HB
         have BK164:=n0_
         have BK166:=n1_
         have HB:=n2_
         clear n0_ n1_ n2_
         refine start_ (n:=25) (S:=fun w' => w'.cell? ⟨gb166,0,none⟩ = some (.int .u32 ((rd_T51 l0_0 x8_1).f0))∧w'.cell? ⟨gb166,1,none⟩ = some (.int .i64 ((rd_T51 l0_0 x8_1).f1.f0))∧w'.cell? ⟨gb166,2,none⟩ = some (.int .i64 ((rd_T51 l0_0 x8_1).f1.f1))∧w'.cell? ⟨gb166,3,none⟩ = some (.int .i64 ((rd_T51 l0_0 x8_1).f1.f2))∧w'.cell? ⟨gb166,4,none⟩ = some (.int .i64 ((rd_T51 l0_0 x8_1).f1.f3))∧w'.cell? ⟨gb166,5,none⟩ = some (.int .i64 ((rd_T51 l0_0 x8_1).f2))) (ds:=[]) #[ff,ff,ff,ff,ff,ff,ff,ff,ff,ff,ff,ff,ff,ff,ff,ff,ff,ff,ff,ff,ff,ff,ff,ff,ff] (by kernel_rfl) rfl rfl ⟨(kC BK166.out 0).trans rfl,(kC BK166.out 1).trans rfl,(kC BK166.out 2).trans rfl,(kC BK166.out 3).trans rfl,(kC BK166.out 4).trans rfl,(kC BK166.out 5).trans rfl⟩ (fun hHeld => ?_);refine with_tabW gazetteerref22_Right.tab4 gazetteerref22_Right.bits4 (fun HT_ HW_ => ?_)
         generalize w42.drew = w43 at BK164 BK166 HB hHeld ⊢
         refine pure_ (i:=0) (N:=some 13) (v:=?_) (a':=?_) #[tt,ff,ff,ff,ff,ff,ff,ff,ff,ff,ff,ff,ff,ff,ff,ff,ff,ff,ff,ff,ff,ff,ff,ff,ff] rfl rfl (any_of HT_.out (by kernel_rfl)) (fun _ _ _ h => h) (Or.inl ⟨by rfl,?_⟩) ?_ ?_
         rotate_left
         ·intro w'
          go_simp
          with_reducible rfl
         rotate_left
         ·simp only [Act.put,sA,sZ,sS,i64_w,i32_w]
          rfl
         refine take_ (i:=1) (N:=some 14) (v:=?_) (a':=?_) #[tt,tt,ff,ff,ff,ff,ff,ff,ff,ff,ff,ff,ff,ff,ff,ff,ff,ff,ff,ff,ff,ff,ff,ff,ff] rfl rfl (take_ofW HT_.out HW_.out (by kernel_rfl)) (fun _ _ _ h => h) (Or.inl ⟨by rfl,?_⟩) hHeld ?_ ?_
         rotate_left
         ·rintro w' ⟨s0,s1,s2,s3,s4,s5⟩
          go_simp
          with_reducible rfl
         rotate_left
         ·simp only [Act.put,sA,sZ,sS,i64_w,i32_w]
          rfl
         refine pure_ (i:=2) (N:=some 15) (v:=?_) (a':=?_) #[tt,tt,tt,ff,ff,ff,ff,ff,ff,ff,ff,ff,ff,ff,ff,ff,ff,ff,ff,ff,ff,ff,ff,ff,ff] rfl rfl (any_of HT_.out (by kernel_rfl)) (fun _ _ _ h => h) (Or.inl ⟨by rfl,?_⟩) ?_ ?_
         rotate_left
         ·intro w'
          go_simp
          with_reducible rfl
         rotate_left
         ·simp only [Act.put,sA,sZ,sS,i64_w,i32_w]
          rfl
         refine pure_ (i:=3) (N:=some 16) (v:=?_) (a':=?_) #[tt,tt,tt,tt,ff,ff,ff,ff,ff,ff,ff,ff,ff,ff,ff,ff,ff,ff,ff,ff,ff,ff,ff,ff,ff] rfl rfl (any_of HT_.out (by kernel_rfl)) (fun _ _ _ h => h) (Or.inl ⟨by rfl,?_⟩) ?_ ?_
         rotate_left
         ·intro w'
          go_simp
          with_reducible rfl
         rotate_left
         ·simp only [Act.put,sA,sZ,sS,i64_w,i32_w]
          rfl
         refine pure_ (i:=4) (N:=some 17) (v:=?_) (a':=?_) #[tt,tt,tt,tt,tt,ff,ff,ff,ff,ff,ff,ff,ff,ff,ff,ff,ff,ff,ff,ff,ff,ff,ff,ff,ff] rfl rfl (any_of HT_.out (by kernel_rfl)) (fun _ _ _ h => h) (Or.inl ⟨by rfl,?_⟩) ?_ ?_
         rotate_left
         ·intro w'
          go_simp
          with_reducible rfl
         rotate_left
         ·simp only [Act.put,sA,sZ,sS,i64_w,i32_w]
          rfl
         refine pure_ (i:=5) (N:=some 18) (v:=?_) (a':=?_) #[tt,tt,tt,tt,tt,tt,ff,ff,ff,ff,ff,ff,ff,ff,ff,ff,ff,ff,ff,ff,ff,ff,ff,ff,ff] rfl rfl (any_of HT_.out (by kernel_rfl)) (fun _ _ _ h => h) (Or.inl ⟨by rfl,?_⟩) ?_ ?_
         rotate_left
         ·intro w'
          go_simp
          with_reducible rfl
         rotate_left
         ·simp only [Act.put,sA,sZ,sS,i64_w,i32_w]
          rfl
         refine pure_ (i:=6) (N:=some 19) (v:=?_) (a':=?_) #[tt,tt,tt,tt,tt,tt,tt,ff,ff,ff,ff,ff,ff,ff,ff,ff,ff,ff,ff,ff,ff,ff,ff,ff,ff] rfl rfl (any_of HT_.out (by kernel_rfl)) (fun _ _ _ h => h) (Or.inl ⟨by rfl,?_⟩) ?_ ?_
         rotate_left
         ·intro w'
          go_simp
          with_reducible rfl
         rotate_left
         ·simp only [Act.put,sA,sZ,sS,i64_w,i32_w]
          rfl
         refine pure_ (i:=7) (N:=some 20) (v:=undef) (a':=?_) #[tt,tt,tt,tt,tt,tt,tt,tt,ff,ff,ff,ff,ff,ff,ff,ff,ff,ff,ff,ff,ff,ff,ff,ff,ff] rfl rfl (any_of HT_.out (by kernel_rfl)) (fun _ _ _ h => h) (Or.inr ⟨by rfl,rfl⟩) ?_ ?_
         rotate_left
         ·simp only [Act.put,sA,sZ,sS,i64_w,i32_w]
          rfl
         refine pure_ (i:=8) (N:=some 21) (v:=undef) (a':=?_) #[tt,tt,tt,tt,tt,tt,tt,tt,tt,ff,ff,ff,ff,ff,ff,ff,ff,ff,ff,ff,ff,ff,ff,ff,ff] rfl rfl (any_of HT_.out (by kernel_rfl)) (fun _ _ _ h => h) (Or.inr ⟨by rfl,rfl⟩) ?_ ?_
         rotate_left
         ·simp only [Act.put,sA,sZ,sS,i64_w,i32_w]
          rfl
         refine pure_ (i:=9) (N:=some 22) (v:=undef) (a':=?_) #[tt,tt,tt,tt,tt,tt,tt,tt,tt,tt,ff,ff,ff,ff,ff,ff,ff,ff,ff,ff,ff,ff,ff,ff,ff] rfl rfl (any_of HT_.out (by kernel_rfl)) (fun _ _ _ h => h) (Or.inr ⟨by rfl,rfl⟩) ?_ ?_
         rotate_left
         ·simp only [Act.put,sA,sZ,sS,i64_w,i32_w]
          rfl
         refine pure_ (i:=10) (N:=some 23) (v:=undef) (a':=?_) #[tt,tt,tt,tt,tt,tt,tt,tt,tt,tt,tt,ff,ff,ff,ff,ff,ff,ff,ff,ff,ff,ff,ff,ff,ff] rfl rfl (any_of HT_.out (by kernel_rfl)) (fun _ _ _ h => h) (Or.inr ⟨by rfl,rfl⟩) ?_ ?_
         rotate_left
         ·simp only [Act.put,sA,sZ,sS,i64_w,i32_w]
          rfl
         refine pure_ (i:=11) (N:=some 24) (v:=undef) (a':=?_) #[tt,tt,tt,tt,tt,tt,tt,tt,tt,tt,tt,tt,ff,ff,ff,ff,ff,ff,ff,ff,ff,ff,ff,ff,ff] rfl rfl (any_of HT_.out (by kernel_rfl)) (fun _ _ _ h => h) (Or.inr ⟨by rfl,rfl⟩) ?_ ?_
         rotate_left
         ·simp only [Act.put,sA,sZ,sS,i64_w,i32_w]
          rfl
         refine pure_ (i:=12) (N:=some 25) (v:=undef) (a':=?_) #[tt,tt,tt,tt,tt,tt,tt,tt,tt,tt,tt,tt,tt,ff,ff,ff,ff,ff,ff,ff,ff,ff,ff,ff,ff] rfl rfl (any_of HT_.out (by kernel_rfl)) (fun _ _ _ h => h) (Or.inr ⟨by rfl,rfl⟩) ?_ ?_
         rotate_left
         ·simp only [Act.put,sA,sZ,sS,i64_w,i32_w]
          rfl
         refine pure_ (i:=13) (N:=some 26) (v:=undef) (a':=?_) #[tt,tt,tt,tt,tt,tt,tt,tt,tt,tt,tt,tt,tt,tt,ff,ff,ff,ff,ff,ff,ff,ff,ff,ff,ff] rfl rfl (any_of HT_.out (by kernel_rfl)) (fun _ _ _ h => h) (Or.inr ⟨by rfl,rfl⟩) ?_ ?_
         rotate_left
         ·simp only [Act.put,sA,sZ,sS,i64_w,i32_w]
          rfl
         refine pure_ (i:=14) (N:=some 27) (v:=undef) (a':=?_) #[tt,tt,tt,tt,tt,tt,tt,tt,tt,tt,tt,tt,tt,tt,tt,ff,ff,ff,ff,ff,ff,ff,ff,ff,ff] rfl rfl (any_of HT_.out (by kernel_rfl)) (fun _ _ _ h => h) (Or.inr ⟨by rfl,rfl⟩) ?_ ?_
         rotate_left
         ·simp only [Act.put,sA,sZ,sS,i64_w,i32_w]
          rfl
         refine pure_ (i:=15) (N:=some 28) (v:=undef) (a':=?_) #[tt,tt,tt,tt,tt,tt,tt,tt,tt,tt,tt,tt,tt,tt,tt,tt,ff,ff,ff,ff,ff,ff,ff,ff,ff] rfl rfl (any_of HT_.out (by kernel_rfl)) (fun _ _ _ h => h) (Or.inr ⟨by rfl,rfl⟩) ?_ ?_
         rotate_left
         ·simp only [Act.put,sA,sZ,sS,i64_w,i32_w]
          rfl
         refine pure_ (i:=16) (N:=some 29) (v:=undef) (a':=?_) #[tt,tt,tt,tt,tt,tt,tt,tt,tt,tt,tt,tt,tt,tt,tt,tt,tt,ff,ff,ff,ff,ff,ff,ff,ff] rfl rfl (any_of HT_.out (by kernel_rfl)) (fun _ _ _ h => h) (Or.inr ⟨by rfl,rfl⟩) ?_ ?_
         rotate_left
         ·simp only [Act.put,sA,sZ,sS,i64_w,i32_w]
          rfl
         refine pure_ (i:=17) (N:=some 30) (v:=?_) (a':=?_) #[tt,tt,tt,tt,tt,tt,tt,tt,tt,tt,tt,tt,tt,tt,tt,tt,tt,tt,ff,ff,ff,ff,ff,ff,ff] rfl rfl (any_of HT_.out (by kernel_rfl)) (fun _ _ _ h => h) (Or.inl ⟨by rfl,?_⟩) ?_ ?_
         rotate_left
         ·intro w'
          go_simp
          with_reducible rfl
         rotate_left
         ·simp only [Act.put,sA,sZ,sS,i64_w,i32_w]
          rfl
         refine pure_ (i:=18) (N:=some 31) (v:=?_) (a':=?_) #[tt,tt,tt,tt,tt,tt,tt,tt,tt,tt,tt,tt,tt,tt,tt,tt,tt,tt,tt,ff,ff,ff,ff,ff,ff] rfl rfl (any_of HT_.out (by kernel_rfl)) (fun _ _ _ h => h) (Or.inl ⟨by rfl,?_⟩) ?_ ?_
         rotate_left
         ·intro w'
          go_simp
          with_reducible rfl
         rotate_left
         ·simp only [Act.put,sA,sZ,sS,i64_w,i32_w]
          rfl
         refine pure_ (i:=19) (N:=some 32) (v:=?_) (a':=?_) #[tt,tt,tt,tt,tt,tt,tt,tt,tt,tt,tt,tt,tt,tt,tt,tt,tt,tt,tt,tt,ff,ff,ff,ff,ff] rfl rfl (any_of HT_.out (by kernel_rfl)) (fun _ _ _ h => h) (Or.inl ⟨by rfl,?_⟩) ?_ ?_
         rotate_left
         ·intro w'
          go_simp
          with_reducible rfl
         rotate_left
         ·simp only [Act.put,sA,sZ,sS,i64_w,i32_w]
          rfl
         refine pure_ (i:=20) (N:=some 33) (v:=?_) (a':=?_) #[tt,tt,tt,tt,tt,tt,tt,tt,tt,tt,tt,tt,tt,tt,tt,tt,tt,tt,tt,tt,tt,ff,ff,ff,ff] rfl rfl (any_of HT_.out (by kernel_rfl)) (fun _ _ _ h => h) (Or.inl ⟨by rfl,?_⟩) ?_ ?_
         rotate_left
         ·intro w'
          go_simp
          with_reducible rfl
         rotate_left
         ·simp only [Act.put,sA,sZ,sS,i64_w,i32_w]
          rfl
         refine take_ (i:=21) (N:=some 34) (v:=?_) (a':=?_) #[tt,tt,tt,tt,tt,tt,tt,tt,tt,tt,tt,tt,tt,tt,tt,tt,tt,tt,tt,tt,tt,tt,ff,ff,ff] rfl rfl (take_ofW HT_.out HW_.out (by kernel_rfl)) (fun _ _ _ h => h) (Or.inl ⟨by rfl,?_⟩) hHeld ?_ ?_
         rotate_left
         ·rintro w' ⟨s0,s1,s2,s3,s4,s5⟩
          go_simp
          with_reducible rfl
         rotate_left
         ·simp only [Act.put,sA,sZ,sS,i64_w,i32_w]
          rfl
         refine one_ (i:=22) (N:=some 35) #[tt,tt,tt,tt,tt,tt,tt,tt,tt,tt,tt,tt,tt,tt,tt,tt,tt,tt,tt,tt,tt,tt,tt,ff,ff] rfl rfl (one_of HT_.out (by kernel_rfl)) (by decide) (fun K hK => ?_)
         refine goes_ Try.func26 (by kernel_rfl) rfl #[.agg #[.int .i64 ((rd_T51 l0_0 x8_1).f1.f0),.int .i64 ((rd_T51 l0_0 x8_1).f1.f1),.int .i64 ((rd_T51 l0_0 x8_1).f1.f2),.int .i64 ((rd_T51 l0_0 x8_1).f1.f3)]] (by rfl) rfl rfl (by (try simp only [List.map_toArray,List.map_cons,List.map_nil]);first|done|rfl|(simp only [List.length_drop,List.length_take];rfl)) ?_
         with_reducible refine (gazetteerref09_Box.calls ((rd_T51 l0_0 x8_1).f1.f0) ((rd_T51 l0_0 x8_1).f1.f1) ((rd_T51 l0_0 x8_1).f1.f2) ((rd_T51 l0_0 x8_1).f1.f3) true _ A37.out).mono ?_
         rintro e w44 ⟨rfl,hb⟩
         refine ⟨_,rfl,?_⟩
         have n0_:=Ak (kB (g:=gb164) (o:=.cells #[.slice (some ad165) l0_0.length c0_0] 24 (0,0)) (by (with_reducible repeat (first|refine kN ?_ _|refine kD ?_|refine kA ?_ _));exact BK164.out) hb)
         have n1_:=Ak (kB (g:=gb166) (o:=.cells #[.int .u32 ((rd_T51 l0_0 x8_1).f0),.int .i64 ((rd_T51 l0_0 x8_1).f1.f0),.int .i64 ((rd_T51 l0_0 x8_1).f1.f1),.int .i64 ((rd_T51 l0_0 x8_1).f1.f2),.int .i64 ((rd_T51 l0_0 x8_1).f1.f3),.int .i64 ((rd_T51 l0_0 x8_1).f2)] 51 (0,0)) (by (with_reducible repeat (first|refine kN ?_ _|refine kD ?_|refine kA ?_ _));exact BK166.out) hb)
         have n2_:=Ak (below_step (by repeat (first|(with_reducible first|exact HB.out|apply bA|apply bN|apply bD|refine bS ?_ GE164.out|refine bS ?_ GE166.out)|exact HB.out)) hb)
         clear BK164
         clear BK166
         clear HB
         have BK164:=n0_
         have BK166:=n1_
         have HB:=n2_
         clear n0_ n1_ n2_
         (try clear hb)
         (try clear hb2)
         (try clear hk)
         (try clear hi)
         refine hK.out _ _ ⟨(kC BK166.out 0).trans rfl,(kC BK166.out 1).trans rfl,(kC BK166.out 2).trans rfl,(kC BK166.out 3).trans rfl,(kC BK166.out 4).trans rfl,(kC BK166.out 5).trans rfl⟩ (fun hHeld => ?_)
         clear hK K
         refine norm_ (a':=?_) ?_ ?_
         rotate_left
         ·show Act.put _ (some 35) _ = _
          simp only [Act.put,sA,sZ,sS,i64_w,i32_w]
          rfl
         refine pure_ (i:=23) (N:=some 36) (v:=?_) (a':=?_) #[tt,tt,tt,tt,tt,tt,tt,tt,tt,tt,tt,tt,tt,tt,tt,tt,tt,tt,tt,tt,tt,tt,tt,tt,ff] rfl rfl (any_of HT_.out (by kernel_rfl)) (fun _ _ _ h => h) (Or.inl ⟨by rfl,?_⟩) ?_ ?_
         rotate_left
         ·intro w'
          go_simp
          with_reducible rfl
         rotate_left
         ·simp only [Act.put,sA,sZ,sS,i64_w,i32_w]
          rfl
         refine pure_ (i:=24) (N:=some 37) (v:=?_) (a':=?_) #[tt,tt,tt,tt,tt,tt,tt,tt,tt,tt,tt,tt,tt,tt,tt,tt,tt,tt,tt,tt,tt,tt,tt,tt,tt] rfl rfl (any_of HT_.out (by kernel_rfl)) (fun _ _ _ h => h) (Or.inl ⟨by rfl,?_⟩) ?_ ?_
         rotate_left
         ·intro w'
          go_simp
          with_reducible rfl
         rotate_left
         ·simp only [Act.put,sA,sZ,sS,i64_w,i32_w]
          rfl
         refine done_ (done_of HT_.out (by kernel_rfl)) ?_
         try go_wp2
         go_roundg k1
         case measure => have:=HK1.out;omega
         case rel => exact ⟨(wrap64 (x8_1+1)),(by first|rfl|(simp;done)|(simp [*];done)),H',⟨by have:=HK1.out;omega⟩,⟨by (with_reducible repeat (first|refine kN ?_ _|refine kD ?_|refine kA ?_ _));exact BK164.out⟩,⟨by repeat (first|(with_reducible first|exact HB.out|apply bA|apply bN|apply bD|refine bS ?_ GE164.out|refine bS ?_ GE166.out)|exact HB.out)⟩⟩
        ·replace c38:=Bool.eq_false_iff.mpr c38
         subst c38
         have H1 : (some false) = some r:=by rw [if_neg (show ¬ (false = true) by decide)] at H;exact H
         clear H
         have H:=H1
         clear H1
         obtain rfl:=Option.some.inj H
         have p165 : 0 ≤ (x8_1 : Int):=of_decide_eq_true (by first|(with_reducible assumption)|assumption)
         have q165 : x8_1 < (l0_0.length : Int):=of_decide_eq_true (by first|(with_reducible assumption)|assumption)
         obtain ⟨ad165,e165,hx165_0,hx165_1,hx165_2,hx165_3,hx165_4,hx165_5⟩:=at_T51 HR0_0.out x8_1 p165 q165
         cases e165
         replace hx165_0:=(HB.out.cell (World.block_lt_of_cell? w _ hx165_0)).trans hx165_0
         replace hx165_1:=(HB.out.cell (World.block_lt_of_cell? w _ hx165_1)).trans hx165_1
         replace hx165_2:=(HB.out.cell (World.block_lt_of_cell? w _ hx165_2)).trans hx165_2
         replace hx165_3:=(HB.out.cell (World.block_lt_of_cell? w _ hx165_3)).trans hx165_3
         replace hx165_4:=(HB.out.cell (World.block_lt_of_cell? w _ hx165_4)).trans hx165_4
         replace hx165_5:=(HB.out.cell (World.block_lt_of_cell? w _ hx165_5)).trans hx165_5
         replace p165:=eq_true p165
         replace q165:=eq_true q165
         try go_wp2_with (first|((with_reducible refine gate_dst (N:=4) rfl ?_);refine box_event ?hg (N:=4) ?hd (cs:=#[.int .u32 0,.int .i64 0,.int .i64 0,.int .i64 0,.int .i64 0,.int .i64 0]) (t:=51) ?hr ?_;(case hd => rfl);(case hg => rfl);(case hr => first|(go_simp;done)|(go_simp;rfl));intro gb166 hg w45 hbox hb;have n0_:=Ak (kB (g:=gb164) (o:=.cells #[.slice (some ad165) l0_0.length c0_0] 24 (0,0)) (by (with_reducible repeat (first|refine kN ?_ _|refine kD ?_|refine kA ?_ _));exact BK164.out) hb);have n1_:=Ak (below_step (by repeat (first|(with_reducible first|exact HB.out|apply bA|apply bN|apply bD|refine bS ?_ GE164.out)|exact HB.out)) hb);have n2_:=Ak (hbox);have n3_:=Ak ((by rw [hg];exact (below_size (by repeat (first|(with_reducible first|exact HB.out|apply bA|apply bN|apply bD|refine bS ?_ GE164.out)|exact HB.out))) : w.heap.size ≤ gb166));have n4_:=Ak ((by rw [hg];exact (below_size (by repeat (first|(with_reducible first|exact HB.out|apply bA|apply bN|apply bD|refine bS ?_ GE164.out)|exact HB.out))) : w.heap.size ≤ gb166));have n5_:=Ak ((by rw [hg];exact Nat.ne_of_lt (blk_lt (g:=gb164) (o:=.cells #[.slice (some ad165) l0_0.length c0_0] 24 (0,0)) (by (with_reducible repeat (first|refine kN ?_ _|refine kD ?_|refine kA ?_ _));exact BK164.out)) : gb164 ≠ gb166));have n6_:=Ak ((by rw [hg];exact Nat.ne_of_gt (blk_lt (g:=gb164) (o:=.cells #[.slice (some ad165) l0_0.length c0_0] 24 (0,0)) (by (with_reducible repeat (first|refine kN ?_ _|refine kD ?_|refine kA ?_ _));exact BK164.out)) : gb166 ≠ gb164));clear BK164;clear HB;have BK164:=n0_;have HB:=n1_;have BK166:=n2_;have GW166:=n3_;have GE166:=n4_;have NB164_166:=n5_;have NB166_164:=n6_;clear n0_ n1_ n2_ n3_ n4_ n5_ n6_;clear hb hbox hg;have hnb46:=NB166_164.out;have hnc46:=NB164_166.out;have hcz47_0 : w45.cell? ⟨gb166,0,none⟩ = some (.int .u32 0):=(kC BK166.out 0).trans rfl;have hcz47_1 : w45.cell? ⟨gb166,1,none⟩ = some (.int .i64 0):=(kC BK166.out 1).trans rfl;have hcz47_2 : w45.cell? ⟨gb166,2,none⟩ = some (.int .i64 0):=(kC BK166.out 2).trans rfl;have hcz47_3 : w45.cell? ⟨gb166,3,none⟩ = some (.int .i64 0):=(kC BK166.out 3).trans rfl;have hcz47_4 : w45.cell? ⟨gb166,4,none⟩ = some (.int .i64 0):=(kC BK166.out 4).trans rfl;have hcz47_5 : w45.cell? ⟨gb166,5,none⟩ = some (.int .i64 0):=(kC BK166.out 5).trans rfl;have hfz47_0:=blk_frozen BK166.out 0;have hfz47_1:=blk_frozen BK166.out 1;have hfz47_2:=blk_frozen BK166.out 2;have hfz47_3:=blk_frozen BK166.out 3;have hfz47_4:=blk_frozen BK166.out 4;have hfz47_5:=blk_frozen BK166.out 5))
         have n0_ : Aside0 (((((((w45.setCell ⟨gb166,0,none⟩ (.int .u32 ((rd_T51 l0_0 x8_1).f0))).setCell ⟨gb166,1,none⟩ (.int .i64 ((rd_T51 l0_0 x8_1).f1.f0))).setCell ⟨gb166,2,none⟩ (.int .i64 ((rd_T51 l0_0 x8_1).f1.f1))).setCell ⟨gb166,3,none⟩ (.int .i64 ((rd_T51 l0_0 x8_1).f1.f2))).setCell ⟨gb166,4,none⟩ (.int .i64 ((rd_T51 l0_0 x8_1).f1.f3))).setCell ⟨gb166,5,none⟩ (.int .i64 ((rd_T51 l0_0 x8_1).f2))).heap[gb164]? = some (.cells #[.slice (some ad165) l0_0.length c0_0] 24 (0,0))):=⟨by (with_reducible repeat (first|refine kN ?_ _|refine kD ?_|refine kA ?_ _));refine blk_far ?_ NB164_166.out _;(with_reducible repeat (first|refine kN ?_ _|refine kD ?_|refine kA ?_ _));refine blk_far ?_ NB164_166.out _;(with_reducible repeat (first|refine kN ?_ _|refine kD ?_|refine kA ?_ _));refine blk_far ?_ NB164_166.out _;(with_reducible repeat (first|refine kN ?_ _|refine kD ?_|refine kA ?_ _));refine blk_far ?_ NB164_166.out _;(with_reducible repeat (first|refine kN ?_ _|refine kD ?_|refine kA ?_ _));refine blk_far ?_ NB164_166.out _;(with_reducible repeat (first|refine kN ?_ _|refine kD ?_|refine kA ?_ _));refine blk_far ?_ NB164_166.out _;(with_reducible repeat (first|refine kN ?_ _|refine kD ?_|refine kA ?_ _));exact BK164.out⟩
         have n1_ : Aside0 (((((((w45.setCell ⟨gb166,0,none⟩ (.int .u32 ((rd_T51 l0_0 x8_1).f0))).setCell ⟨gb166,1,none⟩ (.int .i64 ((rd_T51 l0_0 x8_1).f1.f0))).setCell ⟨gb166,2,none⟩ (.int .i64 ((rd_T51 l0_0 x8_1).f1.f1))).setCell ⟨gb166,3,none⟩ (.int .i64 ((rd_T51 l0_0 x8_1).f1.f2))).setCell ⟨gb166,4,none⟩ (.int .i64 ((rd_T51 l0_0 x8_1).f1.f3))).setCell ⟨gb166,5,none⟩ (.int .i64 ((rd_T51 l0_0 x8_1).f2))).heap[gb166]? = some (.cells #[.int .u32 ((rd_T51 l0_0 x8_1).f0),.int .i64 ((rd_T51 l0_0 x8_1).f1.f0),.int .i64 ((rd_T51 l0_0 x8_1).f1.f1),.int .i64 ((rd_T51 l0_0 x8_1).f1.f2),.int .i64 ((rd_T51 l0_0 x8_1).f1.f3),.int .i64 ((rd_T51 l0_0 x8_1).f2)] 51 (0,0))):=⟨by (with_reducible repeat (first|refine kN ?_ _|refine kD ?_|refine kA ?_ _));refine blk_put (cs:=#[.int .u32 ((rd_T51 l0_0 x8_1).f0),.int .i64 ((rd_T51 l0_0 x8_1).f1.f0),.int .i64 ((rd_T51 l0_0 x8_1).f1.f1),.int .i64 ((rd_T51 l0_0 x8_1).f1.f2),.int .i64 ((rd_T51 l0_0 x8_1).f1.f3),.int .i64 0]) ?_ 5 _ rfl;(with_reducible repeat (first|refine kN ?_ _|refine kD ?_|refine kA ?_ _));refine blk_put (cs:=#[.int .u32 ((rd_T51 l0_0 x8_1).f0),.int .i64 ((rd_T51 l0_0 x8_1).f1.f0),.int .i64 ((rd_T51 l0_0 x8_1).f1.f1),.int .i64 ((rd_T51 l0_0 x8_1).f1.f2),.int .i64 0,.int .i64 0]) ?_ 4 _ rfl;(with_reducible repeat (first|refine kN ?_ _|refine kD ?_|refine kA ?_ _));refine blk_put (cs:=#[.int .u32 ((rd_T51 l0_0 x8_1).f0),.int .i64 ((rd_T51 l0_0 x8_1).f1.f0),.int .i64 ((rd_T51 l0_0 x8_1).f1.f1),.int .i64 0,.int .i64 0,.int .i64 0]) ?_ 3 _ rfl;(with_reducible repeat (first|refine kN ?_ _|refine kD ?_|refine kA ?_ _));refine blk_put (cs:=#[.int .u32 ((rd_T51 l0_0 x8_1).f0),.int .i64 ((rd_T51 l0_0 x8_1).f1.f0),.int .i64 0,.int .i64 0,.int .i64 0,.int .i64 0]) ?_ 2 _ rfl;(with_reducible repeat (first|refine kN ?_ _|refine kD ?_|refine kA ?_ _));refine blk_put (cs:=#[.int .u32 ((rd_T51 l0_0 x8_1).f0),.int .i64 0,.int .i64 0,.int .i64 0,.int .i64 0,.int .i64 0]) ?_ 1 _ rfl;(with_reducible repeat (first|refine kN ?_ _|refine kD ?_|refine kA ?_ _));refine blk_put (cs:=#[.int .u32 0,.int .i64 0,.int .i64 0,.int .i64 0,.int .i64 0,.int .i64 0]) ?_ 0 _ rfl;(with_reducible repeat (first|refine kN ?_ _|refine kD ?_|refine kA ?_ _));exact BK166.out⟩
         have n2_ : Aside0 (Below w.heap.size w ((((((w45.setCell ⟨gb166,0,none⟩ (.int .u32 ((rd_T51 l0_0 x8_1).f0))).setCell ⟨gb166,1,none⟩ (.int .i64 ((rd_T51 l0_0 x8_1).f1.f0))).setCell ⟨gb166,2,none⟩ (.int .i64 ((rd_T51 l0_0 x8_1).f1.f1))).setCell ⟨gb166,3,none⟩ (.int .i64 ((rd_T51 l0_0 x8_1).f1.f2))).setCell ⟨gb166,4,none⟩ (.int .i64 ((rd_T51 l0_0 x8_1).f1.f3))).setCell ⟨gb166,5,none⟩ (.int .i64 ((rd_T51 l0_0 x8_1).f2)))):=⟨by repeat (first|(with_reducible first|exact HB.out|apply bA|apply bN|apply bD|refine bS ?_ GE164.out|refine bS ?_ GE166.out)|exact HB.out)⟩
         (try clear BK164)
         (try clear BK166)
         (try clear HB)
         generalize ((((((w45.setCell ⟨gb166,0,none⟩ (.int .u32 ((rd_T51 l0_0 x8_1).f0))).setCell ⟨gb166,1,none⟩ (.int .i64 ((rd_T51 l0_0 x8_1).f1.f0))).setCell ⟨gb166,2,none⟩ (.int .i64 ((rd_T51 l0_0 x8_1).f1.f1))).setCell ⟨gb166,3,none⟩ (.int .i64 ((rd_T51 l0_0 x8_1).f1.f2))).setCell ⟨gb166,4,none⟩ (.int .i64 ((rd_T51 l0_0 x8_1).f1.f3))).setCell ⟨gb166,5,none⟩ (.int .i64 ((rd_T51 l0_0 x8_1).f2))) = w48 at n0_ n1_ n2_ ⊢
         have BK164:=n0_
         have BK166:=n1_
         have HB:=n2_
         clear n0_ n1_ n2_
         have n0_:=Ak (kD BK164.out)
         have n1_:=Ak (kD BK166.out)
         have n2_:=Ak (bD HB.out)
         clear BK164
         clear BK166
         clear HB
         have BK164:=n0_
         have BK166:=n1_
         have HB:=n2_
         clear n0_ n1_ n2_
         refine start_ (n:=25) (S:=fun w' => w'.cell? ⟨gb166,0,none⟩ = some (.int .u32 ((rd_T51 l0_0 x8_1).f0))∧w'.cell? ⟨gb166,1,none⟩ = some (.int .i64 ((rd_T51 l0_0 x8_1).f1.f0))∧w'.cell? ⟨gb166,2,none⟩ = some (.int .i64 ((rd_T51 l0_0 x8_1).f1.f1))∧w'.cell? ⟨gb166,3,none⟩ = some (.int .i64 ((rd_T51 l0_0 x8_1).f1.f2))∧w'.cell? ⟨gb166,4,none⟩ = some (.int .i64 ((rd_T51 l0_0 x8_1).f1.f3))∧w'.cell? ⟨gb166,5,none⟩ = some (.int .i64 ((rd_T51 l0_0 x8_1).f2))) (ds:=[]) #[ff,ff,ff,ff,ff,ff,ff,ff,ff,ff,ff,ff,ff,ff,ff,ff,ff,ff,ff,ff,ff,ff,ff,ff,ff] (by kernel_rfl) rfl rfl ⟨(kC BK166.out 0).trans rfl,(kC BK166.out 1).trans rfl,(kC BK166.out 2).trans rfl,(kC BK166.out 3).trans rfl,(kC BK166.out 4).trans rfl,(kC BK166.out 5).trans rfl⟩ (fun hHeld => ?_);refine with_tabW gazetteerref22_Right.tab4 gazetteerref22_Right.bits4 (fun HT_ HW_ => ?_)
         generalize w48.drew = w49 at BK164 BK166 HB hHeld ⊢
         refine pure_ (i:=0) (N:=some 13) (v:=?_) (a':=?_) #[tt,ff,ff,ff,ff,ff,ff,ff,ff,ff,ff,ff,ff,ff,ff,ff,ff,ff,ff,ff,ff,ff,ff,ff,ff] rfl rfl (any_of HT_.out (by kernel_rfl)) (fun _ _ _ h => h) (Or.inl ⟨by rfl,?_⟩) ?_ ?_
         rotate_left
         ·intro w'
          go_simp
          with_reducible rfl
         rotate_left
         ·simp only [Act.put,sA,sZ,sS,i64_w,i32_w]
          rfl
         refine take_ (i:=1) (N:=some 14) (v:=?_) (a':=?_) #[tt,tt,ff,ff,ff,ff,ff,ff,ff,ff,ff,ff,ff,ff,ff,ff,ff,ff,ff,ff,ff,ff,ff,ff,ff] rfl rfl (take_ofW HT_.out HW_.out (by kernel_rfl)) (fun _ _ _ h => h) (Or.inl ⟨by rfl,?_⟩) hHeld ?_ ?_
         rotate_left
         ·rintro w' ⟨s0,s1,s2,s3,s4,s5⟩
          go_simp
          with_reducible rfl
         rotate_left
         ·simp only [Act.put,sA,sZ,sS,i64_w,i32_w]
          rfl
         refine pure_ (i:=2) (N:=some 15) (v:=?_) (a':=?_) #[tt,tt,tt,ff,ff,ff,ff,ff,ff,ff,ff,ff,ff,ff,ff,ff,ff,ff,ff,ff,ff,ff,ff,ff,ff] rfl rfl (any_of HT_.out (by kernel_rfl)) (fun _ _ _ h => h) (Or.inl ⟨by rfl,?_⟩) ?_ ?_
         rotate_left
         ·intro w'
          go_simp
          with_reducible rfl
         rotate_left
         ·simp only [Act.put,sA,sZ,sS,i64_w,i32_w]
          rfl
         refine pure_ (i:=3) (N:=some 16) (v:=?_) (a':=?_) #[tt,tt,tt,tt,ff,ff,ff,ff,ff,ff,ff,ff,ff,ff,ff,ff,ff,ff,ff,ff,ff,ff,ff,ff,ff] rfl rfl (any_of HT_.out (by kernel_rfl)) (fun _ _ _ h => h) (Or.inl ⟨by rfl,?_⟩) ?_ ?_
         rotate_left
         ·intro w'
          go_simp
          with_reducible rfl
         rotate_left
         ·simp only [Act.put,sA,sZ,sS,i64_w,i32_w]
          rfl
         refine pure_ (i:=4) (N:=some 17) (v:=?_) (a':=?_) #[tt,tt,tt,tt,tt,ff,ff,ff,ff,ff,ff,ff,ff,ff,ff,ff,ff,ff,ff,ff,ff,ff,ff,ff,ff] rfl rfl (any_of HT_.out (by kernel_rfl)) (fun _ _ _ h => h) (Or.inl ⟨by rfl,?_⟩) ?_ ?_
         rotate_left
         ·intro w'
          go_simp
          with_reducible rfl
         rotate_left
         ·simp only [Act.put,sA,sZ,sS,i64_w,i32_w]
          rfl
         refine pure_ (i:=5) (N:=some 18) (v:=?_) (a':=?_) #[tt,tt,tt,tt,tt,tt,ff,ff,ff,ff,ff,ff,ff,ff,ff,ff,ff,ff,ff,ff,ff,ff,ff,ff,ff] rfl rfl (any_of HT_.out (by kernel_rfl)) (fun _ _ _ h => h) (Or.inl ⟨by rfl,?_⟩) ?_ ?_
         rotate_left
         ·intro w'
          go_simp
          with_reducible rfl
         rotate_left
         ·simp only [Act.put,sA,sZ,sS,i64_w,i32_w]
          rfl
         refine pure_ (i:=6) (N:=some 19) (v:=?_) (a':=?_) #[tt,tt,tt,tt,tt,tt,tt,ff,ff,ff,ff,ff,ff,ff,ff,ff,ff,ff,ff,ff,ff,ff,ff,ff,ff] rfl rfl (any_of HT_.out (by kernel_rfl)) (fun _ _ _ h => h) (Or.inl ⟨by rfl,?_⟩) ?_ ?_
         rotate_left
         ·intro w'
          go_simp
          with_reducible rfl
         rotate_left
         ·simp only [Act.put,sA,sZ,sS,i64_w,i32_w]
          rfl
         refine pure_ (i:=7) (N:=some 20) (v:=undef) (a':=?_) #[tt,tt,tt,tt,tt,tt,tt,tt,ff,ff,ff,ff,ff,ff,ff,ff,ff,ff,ff,ff,ff,ff,ff,ff,ff] rfl rfl (any_of HT_.out (by kernel_rfl)) (fun _ _ _ h => h) (Or.inr ⟨by rfl,rfl⟩) ?_ ?_
         rotate_left
         ·simp only [Act.put,sA,sZ,sS,i64_w,i32_w]
          rfl
         refine pure_ (i:=8) (N:=some 21) (v:=undef) (a':=?_) #[tt,tt,tt,tt,tt,tt,tt,tt,tt,ff,ff,ff,ff,ff,ff,ff,ff,ff,ff,ff,ff,ff,ff,ff,ff] rfl rfl (any_of HT_.out (by kernel_rfl)) (fun _ _ _ h => h) (Or.inr ⟨by rfl,rfl⟩) ?_ ?_
         rotate_left
         ·simp only [Act.put,sA,sZ,sS,i64_w,i32_w]
          rfl
         refine pure_ (i:=9) (N:=some 22) (v:=undef) (a':=?_) #[tt,tt,tt,tt,tt,tt,tt,tt,tt,tt,ff,ff,ff,ff,ff,ff,ff,ff,ff,ff,ff,ff,ff,ff,ff] rfl rfl (any_of HT_.out (by kernel_rfl)) (fun _ _ _ h => h) (Or.inr ⟨by rfl,rfl⟩) ?_ ?_
         rotate_left
         ·simp only [Act.put,sA,sZ,sS,i64_w,i32_w]
          rfl
         refine pure_ (i:=10) (N:=some 23) (v:=undef) (a':=?_) #[tt,tt,tt,tt,tt,tt,tt,tt,tt,tt,tt,ff,ff,ff,ff,ff,ff,ff,ff,ff,ff,ff,ff,ff,ff] rfl rfl (any_of HT_.out (by kernel_rfl)) (fun _ _ _ h => h) (Or.inr ⟨by rfl,rfl⟩) ?_ ?_
         rotate_left
         ·simp only [Act.put,sA,sZ,sS,i64_w,i32_w]
          rfl
         refine pure_ (i:=11) (N:=some 24) (v:=undef) (a':=?_) #[tt,tt,tt,tt,tt,tt,tt,tt,tt,tt,tt,tt,ff,ff,ff,ff,ff,ff,ff,ff,ff,ff,ff,ff,ff] rfl rfl (any_of HT_.out (by kernel_rfl)) (fun _ _ _ h => h) (Or.inr ⟨by rfl,rfl⟩) ?_ ?_
         rotate_left
         ·simp only [Act.put,sA,sZ,sS,i64_w,i32_w]
          rfl
         refine pure_ (i:=12) (N:=some 25) (v:=undef) (a':=?_) #[tt,tt,tt,tt,tt,tt,tt,tt,tt,tt,tt,tt,tt,ff,ff,ff,ff,ff,ff,ff,ff,ff,ff,ff,ff] rfl rfl (any_of HT_.out (by kernel_rfl)) (fun _ _ _ h => h) (Or.inr ⟨by rfl,rfl⟩) ?_ ?_
         rotate_left
         ·simp only [Act.put,sA,sZ,sS,i64_w,i32_w]
          rfl
         refine pure_ (i:=13) (N:=some 26) (v:=undef) (a':=?_) #[tt,tt,tt,tt,tt,tt,tt,tt,tt,tt,tt,tt,tt,tt,ff,ff,ff,ff,ff,ff,ff,ff,ff,ff,ff] rfl rfl (any_of HT_.out (by kernel_rfl)) (fun _ _ _ h => h) (Or.inr ⟨by rfl,rfl⟩) ?_ ?_
         rotate_left
         ·simp only [Act.put,sA,sZ,sS,i64_w,i32_w]
          rfl
         refine pure_ (i:=14) (N:=some 27) (v:=undef) (a':=?_) #[tt,tt,tt,tt,tt,tt,tt,tt,tt,tt,tt,tt,tt,tt,tt,ff,ff,ff,ff,ff,ff,ff,ff,ff,ff] rfl rfl (any_of HT_.out (by kernel_rfl)) (fun _ _ _ h => h) (Or.inr ⟨by rfl,rfl⟩) ?_ ?_
         rotate_left
         ·simp only [Act.put,sA,sZ,sS,i64_w,i32_w]
          rfl
         refine pure_ (i:=15) (N:=some 28) (v:=undef) (a':=?_) #[tt,tt,tt,tt,tt,tt,tt,tt,tt,tt,tt,tt,tt,tt,tt,tt,ff,ff,ff,ff,ff,ff,ff,ff,ff] rfl rfl (any_of HT_.out (by kernel_rfl)) (fun _ _ _ h => h) (Or.inr ⟨by rfl,rfl⟩) ?_ ?_
         rotate_left
         ·simp only [Act.put,sA,sZ,sS,i64_w,i32_w]
          rfl
         refine pure_ (i:=16) (N:=some 29) (v:=undef) (a':=?_) #[tt,tt,tt,tt,tt,tt,tt,tt,tt,tt,tt,tt,tt,tt,tt,tt,tt,ff,ff,ff,ff,ff,ff,ff,ff] rfl rfl (any_of HT_.out (by kernel_rfl)) (fun _ _ _ h => h) (Or.inr ⟨by rfl,rfl⟩) ?_ ?_
         rotate_left
         ·simp only [Act.put,sA,sZ,sS,i64_w,i32_w]
          rfl
         refine pure_ (i:=17) (N:=some 30) (v:=?_) (a':=?_) #[tt,tt,tt,tt,tt,tt,tt,tt,tt,tt,tt,tt,tt,tt,tt,tt,tt,tt,ff,ff,ff,ff,ff,ff,ff] rfl rfl (any_of HT_.out (by kernel_rfl)) (fun _ _ _ h => h) (Or.inl ⟨by rfl,?_⟩) ?_ ?_
         rotate_left
         ·intro w'
          go_simp
          with_reducible rfl
         rotate_left
         ·simp only [Act.put,sA,sZ,sS,i64_w,i32_w]
          rfl
         refine pure_ (i:=18) (N:=some 31) (v:=?_) (a':=?_) #[tt,tt,tt,tt,tt,tt,tt,tt,tt,tt,tt,tt,tt,tt,tt,tt,tt,tt,tt,ff,ff,ff,ff,ff,ff] rfl rfl (any_of HT_.out (by kernel_rfl)) (fun _ _ _ h => h) (Or.inl ⟨by rfl,?_⟩) ?_ ?_
         rotate_left
         ·intro w'
          go_simp
          with_reducible rfl
         rotate_left
         ·simp only [Act.put,sA,sZ,sS,i64_w,i32_w]
          rfl
         refine pure_ (i:=19) (N:=some 32) (v:=?_) (a':=?_) #[tt,tt,tt,tt,tt,tt,tt,tt,tt,tt,tt,tt,tt,tt,tt,tt,tt,tt,tt,tt,ff,ff,ff,ff,ff] rfl rfl (any_of HT_.out (by kernel_rfl)) (fun _ _ _ h => h) (Or.inl ⟨by rfl,?_⟩) ?_ ?_
         rotate_left
         ·intro w'
          go_simp
          with_reducible rfl
         rotate_left
         ·simp only [Act.put,sA,sZ,sS,i64_w,i32_w]
          rfl
         refine pure_ (i:=20) (N:=some 33) (v:=?_) (a':=?_) #[tt,tt,tt,tt,tt,tt,tt,tt,tt,tt,tt,tt,tt,tt,tt,tt,tt,tt,tt,tt,tt,ff,ff,ff,ff] rfl rfl (any_of HT_.out (by kernel_rfl)) (fun _ _ _ h => h) (Or.inl ⟨by rfl,?_⟩) ?_ ?_
         rotate_left
         ·intro w'
          go_simp
          with_reducible rfl
         rotate_left
         ·simp only [Act.put,sA,sZ,sS,i64_w,i32_w]
          rfl
         refine take_ (i:=21) (N:=some 34) (v:=?_) (a':=?_) #[tt,tt,tt,tt,tt,tt,tt,tt,tt,tt,tt,tt,tt,tt,tt,tt,tt,tt,tt,tt,tt,tt,ff,ff,ff] rfl rfl (take_ofW HT_.out HW_.out (by kernel_rfl)) (fun _ _ _ h => h) (Or.inl ⟨by rfl,?_⟩) hHeld ?_ ?_
         rotate_left
         ·rintro w' ⟨s0,s1,s2,s3,s4,s5⟩
          go_simp
          with_reducible rfl
         rotate_left
         ·simp only [Act.put,sA,sZ,sS,i64_w,i32_w]
          rfl
         refine one_ (i:=22) (N:=some 35) #[tt,tt,tt,tt,tt,tt,tt,tt,tt,tt,tt,tt,tt,tt,tt,tt,tt,tt,tt,tt,tt,tt,tt,ff,ff] rfl rfl (one_of HT_.out (by kernel_rfl)) (by decide) (fun K hK => ?_)
         refine goes_ Try.func26 (by kernel_rfl) rfl #[.agg #[.int .i64 ((rd_T51 l0_0 x8_1).f1.f0),.int .i64 ((rd_T51 l0_0 x8_1).f1.f1),.int .i64 ((rd_T51 l0_0 x8_1).f1.f2),.int .i64 ((rd_T51 l0_0 x8_1).f1.f3)]] (by rfl) rfl rfl (by (try simp only [List.map_toArray,List.map_cons,List.map_nil]);first|done|rfl|(simp only [List.length_drop,List.length_take];rfl)) ?_
         with_reducible refine (gazetteerref09_Box.calls ((rd_T51 l0_0 x8_1).f1.f0) ((rd_T51 l0_0 x8_1).f1.f1) ((rd_T51 l0_0 x8_1).f1.f2) ((rd_T51 l0_0 x8_1).f1.f3) false _ A37.out).mono ?_
         rintro e w50 ⟨rfl,hb⟩
         refine ⟨_,rfl,?_⟩
         have n0_:=Ak (kB (g:=gb164) (o:=.cells #[.slice (some ad165) l0_0.length c0_0] 24 (0,0)) (by (with_reducible repeat (first|refine kN ?_ _|refine kD ?_|refine kA ?_ _));exact BK164.out) hb)
         have n1_:=Ak (kB (g:=gb166) (o:=.cells #[.int .u32 ((rd_T51 l0_0 x8_1).f0),.int .i64 ((rd_T51 l0_0 x8_1).f1.f0),.int .i64 ((rd_T51 l0_0 x8_1).f1.f1),.int .i64 ((rd_T51 l0_0 x8_1).f1.f2),.int .i64 ((rd_T51 l0_0 x8_1).f1.f3),.int .i64 ((rd_T51 l0_0 x8_1).f2)] 51 (0,0)) (by (with_reducible repeat (first|refine kN ?_ _|refine kD ?_|refine kA ?_ _));exact BK166.out) hb)
         have n2_:=Ak (below_step (by repeat (first|(with_reducible first|exact HB.out|apply bA|apply bN|apply bD|refine bS ?_ GE164.out|refine bS ?_ GE166.out)|exact HB.out)) hb)
         clear BK164
         clear BK166
         clear HB
         have BK164:=n0_
         have BK166:=n1_
         have HB:=n2_
         clear n0_ n1_ n2_
         (try clear hb)
         (try clear hb2)
         (try clear hk)
         (try clear hi)
         refine hK.out _ _ ⟨(kC BK166.out 0).trans rfl,(kC BK166.out 1).trans rfl,(kC BK166.out 2).trans rfl,(kC BK166.out 3).trans rfl,(kC BK166.out 4).trans rfl,(kC BK166.out 5).trans rfl⟩ (fun hHeld => ?_)
         clear hK K
         refine norm_ (a':=?_) ?_ ?_
         rotate_left
         ·show Act.put _ (some 35) _ = _
          simp only [Act.put,sA,sZ,sS,i64_w,i32_w]
          rfl
         refine pure_ (i:=23) (N:=some 36) (v:=?_) (a':=?_) #[tt,tt,tt,tt,tt,tt,tt,tt,tt,tt,tt,tt,tt,tt,tt,tt,tt,tt,tt,tt,tt,tt,tt,tt,ff] rfl rfl (any_of HT_.out (by kernel_rfl)) (fun _ _ _ h => h) (Or.inl ⟨by rfl,?_⟩) ?_ ?_
         rotate_left
         ·intro w'
          go_simp
          with_reducible rfl
         rotate_left
         ·simp only [Act.put,sA,sZ,sS,i64_w,i32_w]
          rfl
         refine pure_ (i:=24) (N:=some 37) (v:=?_) (a':=?_) #[tt,tt,tt,tt,tt,tt,tt,tt,tt,tt,tt,tt,tt,tt,tt,tt,tt,tt,tt,tt,tt,tt,tt,tt,tt] rfl rfl (any_of HT_.out (by kernel_rfl)) (fun _ _ _ h => h) (Or.inl ⟨by rfl,?_⟩) ?_ ?_
         rotate_left
         ·intro w'
          go_simp
          with_reducible rfl
         rotate_left
         ·simp only [Act.put,sA,sZ,sS,i64_w,i32_w]
          rfl
         refine done_ (done_of HT_.out (by kernel_rfl)) ?_
         try go_wp2
         go_ret
         exact ⟨by first|rfl|(simp [errW_none,errW_some] <;> rfl)|(simp [*,errW_none,errW_some] <;> rfl),by repeat (first|(with_reducible first|exact HB.out|apply bA|apply bN|apply bD|refine bS ?_ GE164.out|refine bS ?_ GE166.out)|exact HB.out)⟩
     ·rw [if_neg c6] at H
      exact absurd H (by simp)
    ·rw [if_neg c5] at H
     exact absurd H (by simp)
   ·rw [if_neg c4] at H
    have c4b0 : decide (x8_1 < (l0_0.length : Int)) = false:=decide_eq_false c4
    clear c4
    obtain rfl:=Option.some.inj H
    have hcz51_0 : wr.cell? ⟨gb164,0,none⟩ = some (.slice A0_0 l0_0.length c0_0):=(kC BK164.out 0).trans rfl
    have hfz51_0:=blk_frozen BK164.out 0
    go_wp2
    go_ret
    exact ⟨by first|rfl|(simp [errW_none,errW_some] <;> rfl)|(simp [*,errW_none,errW_some] <;> rfl),by repeat (first|(with_reducible first|exact HB.out|apply bA|apply bN|apply bD|refine bS ?_ GE164.out)|exact HB.out)⟩
end Go.Proofs.Ytknlbfandkmeiaa.M
end
section
namespace Go.Proofs.Ytknlbfandkmeiaa.M
open Go.RowKit Go.Proofs.YtknlbfandkmeiaaW.PrintWords Go.Proofs.YtknlbfandkmeiaaW.PrintLast Go.Proofs.YtknlbfandkmeiaaW.PrintMore
attribute [local go_sem] max2_int min2_int max_two min_two max_three min_three max_four min_four   -- for this text's walks alone
def gazetteerref22_Class.f (a0 : Int) : Option (Bool) := if a0 ≥ 1 then (some (decide (a0 ≤ 3))) else (some false)
set_option maxHeartbeats 8000000 in
set_option maxRecDepth 100000 in
theorem gazetteerref22_Class.calls (a0 : Int) (r : Bool) (w : World) (h : gazetteerref22_Class.f a0 = some r) :
    Calls Try.prog 17 #[.int .i64 a0] w fun e w' => e = .returned (.bool r) ∧ Drawn0 w w' := by
  have H : (if a0 ≥ 1 then (some (decide (a0 ≤ 3))) else (some false)) = some r := h
  clear h
  by_cases c2 : a0 ≥ 1
  · rw [if_pos c2] at H
    have c2b0 : decide (1 ≤ a0) = true := decide_eq_true c2
    clear c2
    obtain rfl := Option.some.inj H
    go_enter Try.func17, Try.ntmps17
    go_wp2
    go_ret
    exact ⟨by first | rfl | (simp; done) | (simp [*]; done), by repeat (first | exact Drawn0.refl _ | apply Drawn0.step)⟩
  · rw [if_neg c2] at H
    have c2b0 : decide (1 ≤ a0) = false := decide_eq_false c2
    clear c2
    obtain rfl := Option.some.inj H
    go_enter Try.func17, Try.ntmps17
    go_wp2
    go_ret
    exact ⟨by first | rfl | (simp; done) | (simp [*]; done), by repeat (first | exact Drawn0.refl _ | apply Drawn0.step)⟩
def gazetteerref09_inside.f (a0 : Int) (a1 : Int) (a2 : Int) : Option (Bool) := if a0 ≤ a2 then (some (decide (a2 ≤ a1))) else (some false)
set_option maxHeartbeats 8000000 in
set_option maxRecDepth 100000 in
theorem gazetteerref09_inside.calls (a0 : Int) (a1 : Int) (a2 : Int) (r : Bool) (w : World) (h : gazetteerref09_inside.f a0 a1 a2 = some r) :
    Calls Try.prog 73 #[.int .i64 a0, .int .i64 a1, .int .i64 a2] w fun e w' => e = .returned (.bool r) ∧ Drawn0 w w' := by
  have H : (if a0 ≤ a2 then (some (decide (a2 ≤ a1))) else (some false)) = some r := h
  clear h
  by_cases c4 : a0 ≤ a2
  · rw [if_pos c4] at H
    have c4b0 : decide (a0 ≤ a2) = true := decide_eq_true c4
    clear c4
    obtain rfl := Option.some.inj H
    go_enter Try.func73, Try.ntmps73
    go_wp2
    go_ret
    exact ⟨by first | rfl | (simp; done) | (simp [*]; done), by repeat (first | exact Drawn0.refl _ | apply Drawn0.step)⟩
  · rw [if_neg c4] at H
    have c4b0 : decide (a0 ≤ a2) = false := decide_eq_false c4
    clear c4
    obtain rfl := Option.some.inj H
    go_enter Try.func73, Try.ntmps73
    go_wp2
    go_ret
    exact ⟨by first | rfl | (simp; done) | (simp [*]; done), by repeat (first | exact Drawn0.refl _ | apply Drawn0.step)⟩
mutual
def gazetteerref09_Meets.j0 : Nat → Bool → Int → Int → Int → Int → Int → Int → Int → Int → Option (Bool)
  | 0, _, _, _, _, _, _, _, _, _ => none
  | k + 1, x14, x171000, x171001, x171002, x171003, x172000, x172001, x172002, x172003 => if x14 = true then (some false) else (if x172000 > x171000 then (gazetteerref09_Meets.j1 k x172000 x171002 x171000 x171001 x171002 x171003 x172000 x172001 x172002 x172003) else (gazetteerref09_Meets.j1 k x171000 x171002 x171000 x171001 x171002 x171003 x172000 x172001 x172002 x172003))
def gazetteerref09_Meets.j1 : Nat → Int → Int → Int → Int → Int → Int → Int → Int → Int → Int → Option (Bool)
  | 0, _, _, _, _, _, _, _, _, _, _ => none
  | k + 1, x5, x6, x171000, x171001, x171002, x171003, x172000, x172001, x172002, x172003 => if x172002 > x6 then (gazetteerref09_Meets.j2 k x5 x172002 x171000 x171001 x171002 x171003 x172000 x172001 x172002 x172003) else (gazetteerref09_Meets.j2 k x5 x6 x171000 x171001 x171002 x171003 x172000 x172001 x172002 x172003)
def gazetteerref09_Meets.j2 : Nat → Int → Int → Int → Int → Int → Int → Int → Int → Int → Int → Option (Bool)
  | 0, _, _, _, _, _, _, _, _, _, _ => none
  | k + 1, x5, x6, x171000, x171001, x171002, x171003, x172000, x172001, x172002, x172003 => (gazetteerref09_inside.f x171000 x171001 x5).bind fun t174 => (if t174 = true then ((gazetteerref09_inside.f x172000 x172001 x5).bind fun t175 => (if t175 = true then ((gazetteerref09_inside.f x171002 x171003 x6).bind fun t176 => (if t176 = true then ((gazetteerref09_inside.f x172002 x172003 x6).bind fun t177 => (some t177)) else (some false))) else (some false))) else (some false))
end
def gazetteerref09_Meets.f (k : Nat) (a0_0 : Int) (a0_1 : Int) (a0_2 : Int) (a0_3 : Int) (a1_0 : Int) (a1_1 : Int) (a1_2 : Int) (a1_3 : Int) : Option (Bool) := (gazetteerref09_Box.f a0_0 a0_1 a0_2 a0_3).bind fun t172 => (if t172 = true then ((gazetteerref09_Box.f a1_0 a1_1 a1_2 a1_3).bind fun t173 => (gazetteerref09_Meets.j0 k (!t173) a0_0 a0_1 a0_2 a0_3 a1_0 a1_1 a1_2 a1_3)) else (gazetteerref09_Meets.j0 k true a0_0 a0_1 a0_2 a0_3 a1_0 a1_1 a1_2 a1_3))
set_option maxHeartbeats 8000000 in
set_option maxRecDepth 100000 in
theorem gazetteerref09_Meets.calls (k : Nat) (a0_0 : Int) (a0_1 : Int) (a0_2 : Int) (a0_3 : Int) (a1_0 : Int) (a1_1 : Int) (a1_2 : Int) (a1_3 : Int) (r : Bool) (w : World) (h : gazetteerref09_Meets.f k a0_0 a0_1 a0_2 a0_3 a1_0 a1_1 a1_2 a1_3 = some r) :
  Calls Try.prog 52 #[.agg #[.int .i64 a0_0,.int .i64 a0_1,.int .i64 a0_2,.int .i64 a0_3],.agg #[.int .i64 a1_0,.int .i64 a1_1,.int .i64 a1_2,.int .i64 a1_3]] w fun e w' => e = .returned (.bool r)∧Below w.heap.size w w':=by
 have hu36:=Try.underlying36
 have HB:=Ak (Below.refl w.heap.size w)
 have H : ((gazetteerref09_Box.f a0_0 a0_1 a0_2 a0_3).bind fun t172 => (if t172 = true then ((gazetteerref09_Box.f a1_0 a1_1 a1_2 a1_3).bind fun t173 => (gazetteerref09_Meets.j0 k (!t173) a0_0 a0_1 a0_2 a0_3 a1_0 a1_1 a1_2 a1_3)) else (gazetteerref09_Meets.j0 k true a0_0 a0_1 a0_2 a0_3 a1_0 a1_1 a1_2 a1_3))) = some r:=h
 clear h
 have HC3:=Ak H
 clear H
 go_enter Try.func52,Try.ntmps52
 go_upto_region 1 with (first|((with_reducible refine gate_dst (N:=2) rfl ?_);refine box_event ?hg (N:=2) ?hd (cs:=#[.int .i64 a0_0,.int .i64 a0_1,.int .i64 a0_2,.int .i64 a0_3]) (t:=36) ?hr ?_;(case hd => rfl);(case hg => rfl);(case hr => first|(go_simp;done)|(go_simp;rfl));intro gb170 hg w4 hbox hb;have n0_:=Ak (below_step (by repeat (first|(with_reducible first|exact HB.out|apply bA|apply bN|apply bD)|exact HB.out)) hb);have n1_:=Ak (hbox);have n2_:=Ak ((by rw [hg];exact (below_size (by repeat (first|(with_reducible first|exact HB.out|apply bA|apply bN|apply bD)|exact HB.out))) : w.heap.size ≤ gb170));have n3_:=Ak ((by rw [hg];exact (below_size (by repeat (first|(with_reducible first|exact HB.out|apply bA|apply bN|apply bD)|exact HB.out))) : w.heap.size ≤ gb170));clear HB;have HB:=n0_;have BK170:=n1_;have GW170:=n2_;have GE170:=n3_;clear n0_ n1_ n2_ n3_;clear hb hbox hg)|((with_reducible refine gate_dst (N:=3) rfl ?_);refine box_event ?hg (N:=3) ?hd (cs:=#[.int .i64 a1_0,.int .i64 a1_1,.int .i64 a1_2,.int .i64 a1_3]) (t:=36) ?hr ?_;(case hd => rfl);(case hg => rfl);(case hr => first|(go_simp;done)|(go_simp;rfl));intro gb171 hg w5 hbox hb;have n0_:=Ak (kB (g:=gb170) (o:=.cells #[.int .i64 a0_0,.int .i64 a0_1,.int .i64 a0_2,.int .i64 a0_3] 36 (0,0)) (by (with_reducible repeat (first|refine kN ?_ _|refine kD ?_|refine kA ?_ _));exact BK170.out) hb);have n1_:=Ak (below_step (by repeat (first|(with_reducible first|exact HB.out|apply bA|apply bN|apply bD|refine bS ?_ GE170.out)|exact HB.out)) hb);have n2_:=Ak (hbox);have n3_:=Ak ((by rw [hg];exact (below_size (by repeat (first|(with_reducible first|exact HB.out|apply bA|apply bN|apply bD|refine bS ?_ GE170.out)|exact HB.out))) : w.heap.size ≤ gb171));have n4_:=Ak ((by rw [hg];exact (below_size (by repeat (first|(with_reducible first|exact HB.out|apply bA|apply bN|apply bD|refine bS ?_ GE170.out)|exact HB.out))) : w.heap.size ≤ gb171));have n5_:=Ak ((by rw [hg];exact Nat.ne_of_lt (blk_lt (g:=gb170) (o:=.cells #[.int .i64 a0_0,.int .i64 a0_1,.int .i64 a0_2,.int .i64 a0_3] 36 (0,0)) (by (with_reducible repeat (first|refine kN ?_ _|refine kD ?_|refine kA ?_ _));exact BK170.out)) : gb170 ≠ gb171));have n6_:=Ak ((by rw [hg];exact Nat.ne_of_gt (blk_lt (g:=gb170) (o:=.cells #[.int .i64 a0_0,.int .i64 a0_1,.int .i64 a0_2,.int .i64 a0_3] 36 (0,0)) (by (with_reducible repeat (first|refine kN ?_ _|refine kD ?_|refine kA ?_ _));exact BK170.out)) : gb171 ≠ gb170));clear BK170;clear HB;have BK170:=n0_;have HB:=n1_;have BK171:=n2_;have GW171:=n3_;have GE171:=n4_;have NB170_171:=n5_;have NB171_170:=n6_;clear n0_ n1_ n2_ n3_ n4_ n5_ n6_;clear hb hbox hg))
 repeat (go_quiet (first|((with_reducible refine gate_dst (N:=2) rfl ?_);refine box_event ?hg (N:=2) ?hd (cs:=#[.int .i64 a0_0,.int .i64 a0_1,.int .i64 a0_2,.int .i64 a0_3]) (t:=36) ?hr ?_;(case hd => rfl);(case hg => rfl);(case hr => first|(go_simp;done)|(go_simp;rfl));intro gb170 hg w4 hbox hb;have n0_:=Ak (below_step (by repeat (first|(with_reducible first|exact HB.out|apply bA|apply bN|apply bD)|exact HB.out)) hb);have n1_:=Ak (hbox);have n2_:=Ak ((by rw [hg];exact (below_size (by repeat (first|(with_reducible first|exact HB.out|apply bA|apply bN|apply bD)|exact HB.out))) : w.heap.size ≤ gb170));have n3_:=Ak ((by rw [hg];exact (below_size (by repeat (first|(with_reducible first|exact HB.out|apply bA|apply bN|apply bD)|exact HB.out))) : w.heap.size ≤ gb170));clear HB;have HB:=n0_;have BK170:=n1_;have GW170:=n2_;have GE170:=n3_;clear n0_ n1_ n2_ n3_;clear hb hbox hg)|((with_reducible refine gate_dst (N:=3) rfl ?_);refine box_event ?hg (N:=3) ?hd (cs:=#[.int .i64 a1_0,.int .i64 a1_1,.int .i64 a1_2,.int .i64 a1_3]) (t:=36) ?hr ?_;(case hd => rfl);(case hg => rfl);(case hr => first|(go_simp;done)|(go_simp;rfl));intro gb171 hg w5 hbox hb;have n0_:=Ak (kB (g:=gb170) (o:=.cells #[.int .i64 a0_0,.int .i64 a0_1,.int .i64 a0_2,.int .i64 a0_3] 36 (0,0)) (by (with_reducible repeat (first|refine kN ?_ _|refine kD ?_|refine kA ?_ _));exact BK170.out) hb);have n1_:=Ak (below_step (by repeat (first|(with_reducible first|exact HB.out|apply bA|apply bN|apply bD|refine bS ?_ GE170.out)|exact HB.out)) hb);have n2_:=Ak (hbox);have n3_:=Ak ((by rw [hg];exact (below_size (by repeat (first|(with_reducible first|exact HB.out|apply bA|apply bN|apply bD|refine bS ?_ GE170.out)|exact HB.out))) : w.heap.size ≤ gb171));have n4_:=Ak ((by rw [hg];exact (below_size (by repeat (first|(with_reducible first|exact HB.out|apply bA|apply bN|apply bD|refine bS ?_ GE170.out)|exact HB.out))) : w.heap.size ≤ gb171));have n5_:=Ak ((by rw [hg];exact Nat.ne_of_lt (blk_lt (g:=gb170) (o:=.cells #[.int .i64 a0_0,.int .i64 a0_1,.int .i64 a0_2,.int .i64 a0_3] 36 (0,0)) (by (with_reducible repeat (first|refine kN ?_ _|refine kD ?_|refine kA ?_ _));exact BK170.out)) : gb170 ≠ gb171));have n6_:=Ak ((by rw [hg];exact Nat.ne_of_gt (blk_lt (g:=gb170) (o:=.cells #[.int .i64 a0_0,.int .i64 a0_1,.int .i64 a0_2,.int .i64 a0_3] 36 (0,0)) (by (with_reducible repeat (first|refine kN ?_ _|refine kD ?_|refine kA ?_ _));exact BK170.out)) : gb171 ≠ gb170));clear BK170;clear HB;have BK170:=n0_;have HB:=n1_;have BK171:=n2_;have GW171:=n3_;have GE171:=n4_;have NB170_171:=n5_;have NB171_170:=n6_;clear n0_ n1_ n2_ n3_ n4_ n5_ n6_;clear hb hbox hg));go_upto_region 1 with (first|((with_reducible refine gate_dst (N:=2) rfl ?_);refine box_event ?hg (N:=2) ?hd (cs:=#[.int .i64 a0_0,.int .i64 a0_1,.int .i64 a0_2,.int .i64 a0_3]) (t:=36) ?hr ?_;(case hd => rfl);(case hg => rfl);(case hr => first|(go_simp;done)|(go_simp;rfl));intro gb170 hg w4 hbox hb;have n0_:=Ak (below_step (by repeat (first|(with_reducible first|exact HB.out|apply bA|apply bN|apply bD)|exact HB.out)) hb);have n1_:=Ak (hbox);have n2_:=Ak ((by rw [hg];exact (below_size (by repeat (first|(with_reducible first|exact HB.out|apply bA|apply bN|apply bD)|exact HB.out))) : w.heap.size ≤ gb170));have n3_:=Ak ((by rw [hg];exact (below_size (by repeat (first|(with_reducible first|exact HB.out|apply bA|apply bN|apply bD)|exact HB.out))) : w.heap.size ≤ gb170));clear HB;have HB:=n0_;have BK170:=n1_;have GW170:=n2_;have GE170:=n3_;clear n0_ n1_ n2_ n3_;clear hb hbox hg)|((with_reducible refine gate_dst (N:=3) rfl ?_);refine box_event ?hg (N:=3) ?hd (cs:=#[.int .i64 a1_0,.int .i64 a1_1,.int .i64 a1_2,.int .i64 a1_3]) (t:=36) ?hr ?_;(case hd => rfl);(case hg => rfl);(case hr => first|(go_simp;done)|(go_simp;rfl));intro gb171 hg w5 hbox hb;have n0_:=Ak (kB (g:=gb170) (o:=.cells #[.int .i64 a0_0,.int .i64 a0_1,.int .i64 a0_2,.int .i64 a0_3] 36 (0,0)) (by (with_reducible repeat (first|refine kN ?_ _|refine kD ?_|refine kA ?_ _));exact BK170.out) hb);have n1_:=Ak (below_step (by repeat (first|(with_reducible first|exact HB.out|apply bA|apply bN|apply bD|refine bS ?_ GE170.out)|exact HB.out)) hb);have n2_:=Ak (hbox);have n3_:=Ak ((by rw [hg];exact (below_size (by repeat (first|(with_reducible first|exact HB.out|apply bA|apply bN|apply bD|refine bS ?_ GE170.out)|exact HB.out))) : w.heap.size ≤ gb171));have n4_:=Ak ((by rw [hg];exact (below_size (by repeat (first|(with_reducible first|exact HB.out|apply bA|apply bN|apply bD|refine bS ?_ GE170.out)|exact HB.out))) : w.heap.size ≤ gb171));have n5_:=Ak ((by rw [hg];exact Nat.ne_of_lt (blk_lt (g:=gb170) (o:=.cells #[.int .i64 a0_0,.int .i64 a0_1,.int .i64 a0_2,.int .i64 a0_3] 36 (0,0)) (by (with_reducible repeat (first|refine kN ?_ _|refine kD ?_|refine kA ?_ _));exact BK170.out)) : gb170 ≠ gb171));have n6_:=Ak ((by rw [hg];exact Nat.ne_of_gt (blk_lt (g:=gb170) (o:=.cells #[.int .i64 a0_0,.int .i64 a0_1,.int .i64 a0_2,.int .i64 a0_3] 36 (0,0)) (by (with_reducible repeat (first|refine kN ?_ _|refine kD ?_|refine kA ?_ _));exact BK170.out)) : gb171 ≠ gb170));clear BK170;clear HB;have BK170:=n0_;have HB:=n1_;have BK171:=n2_;have GW171:=n3_;have GE171:=n4_;have NB170_171:=n5_;have NB171_170:=n6_;clear n0_ n1_ n2_ n3_ n4_ n5_ n6_;clear hb hbox hg)))
 (try simp only [Act.put,sA,sZ,sS])
 go_cut [14] (fun v14 wc => ∃ (kq : Nat) (x14_2 : Bool),v14 = .bool x14_2∧Aside0 (gazetteerref09_Meets.j0 kq x14_2 a0_0 a0_1 a0_2 a0_3 a1_0 a1_1 a1_2 a1_3 = some r)∧Aside0 (kq ≤ k)∧Aside0 (wc.heap[gb170]? = some (.cells #[.int .i64 a0_0,.int .i64 a0_1,.int .i64 a0_2,.int .i64 a0_3] 36 (0,0)))∧Aside0 (wc.heap[gb171]? = some (.cells #[.int .i64 a1_0,.int .i64 a1_1,.int .i64 a1_2,.int .i64 a1_3] 36 (0,0)))∧Aside0 (Below w.heap.size w wc))
 case first =>
  have H:=HC3.out
  clear HC3
  replace H:=Option.bind_eq_some_iff.mp H
  obtain ⟨t172,A60,H⟩:=H
  replace H : (if t172 = true then ((gazetteerref09_Box.f a1_0 a1_1 a1_2 a1_3).bind fun t173 => (gazetteerref09_Meets.j0 k (!t173) a0_0 a0_1 a0_2 a0_3 a1_0 a1_1 a1_2 a1_3)) else (gazetteerref09_Meets.j0 k true a0_0 a0_1 a0_2 a0_3 a1_0 a1_1 a1_2 a1_3)) = some r:=H
  have A6:=Ak A60
  clear A60
  by_cases c7 : t172 = true
  ·subst c7
   have H1 : ((gazetteerref09_Box.f a1_0 a1_1 a1_2 a1_3).bind fun t173 => (gazetteerref09_Meets.j0 k (!t173) a0_0 a0_1 a0_2 a0_3 a1_0 a1_1 a1_2 a1_3)) = some r:=by rw [if_pos rfl] at H;exact H
   clear H
   have H:=H1
   clear H1
   replace H:=Option.bind_eq_some_iff.mp H
   obtain ⟨t173,A80,H⟩:=H
   replace H : (gazetteerref09_Meets.j0 k (!t173) a0_0 a0_1 a0_2 a0_3 a1_0 a1_1 a1_2 a1_3) = some r:=H
   have A8:=Ak A80
   clear A80
   have H':=Ak H
   clear H
   have hnb9:=NB170_171.out
   have hnc9:=NB171_170.out
   have hcz10_0 : w5.cell? ⟨gb170,0,none⟩ = some (.int .i64 a0_0):=(kC BK170.out 0).trans rfl
   have hcz10_1 : w5.cell? ⟨gb170,1,none⟩ = some (.int .i64 a0_1):=(kC BK170.out 1).trans rfl
   have hcz10_2 : w5.cell? ⟨gb170,2,none⟩ = some (.int .i64 a0_2):=(kC BK170.out 2).trans rfl
   have hcz10_3 : w5.cell? ⟨gb170,3,none⟩ = some (.int .i64 a0_3):=(kC BK170.out 3).trans rfl
   have hfz10_0:=blk_frozen BK170.out 0
   have hfz10_1:=blk_frozen BK170.out 1
   have hfz10_2:=blk_frozen BK170.out 2
   have hfz10_3:=blk_frozen BK170.out 3
   go_wp2_with (first|(go_at_call 26;(with_reducible refine (gazetteerref09_Box.calls a0_0 a0_1 a0_2 a0_3 true _ A6.out).mono ?_);rintro e w11 ⟨rfl,hb⟩;have n0_:=Ak (kB (g:=gb170) (o:=.cells #[.int .i64 a0_0,.int .i64 a0_1,.int .i64 a0_2,.int .i64 a0_3] 36 (0,0)) (by (with_reducible repeat (first|refine kN ?_ _|refine kD ?_|refine kA ?_ _));exact BK170.out) hb);have n1_:=Ak (kB (g:=gb171) (o:=.cells #[.int .i64 a1_0,.int .i64 a1_1,.int .i64 a1_2,.int .i64 a1_3] 36 (0,0)) (by (with_reducible repeat (first|refine kN ?_ _|refine kD ?_|refine kA ?_ _));exact BK171.out) hb);have n2_:=Ak (below_step (by repeat (first|(with_reducible first|exact HB.out|apply bA|apply bN|apply bD|refine bS ?_ GE170.out|refine bS ?_ GE171.out)|exact HB.out)) hb);clear BK170;clear BK171;clear HB;have BK170:=n0_;have BK171:=n1_;have HB:=n2_;clear n0_ n1_ n2_;(try clear hb);(try clear hb2);(try clear hk);(try clear hi);have hcz12_0 : w11.cell? ⟨gb171,0,none⟩ = some (.int .i64 a1_0):=(kC BK171.out 0).trans rfl;have hcz12_1 : w11.cell? ⟨gb171,1,none⟩ = some (.int .i64 a1_1):=(kC BK171.out 1).trans rfl;have hcz12_2 : w11.cell? ⟨gb171,2,none⟩ = some (.int .i64 a1_2):=(kC BK171.out 2).trans rfl;have hcz12_3 : w11.cell? ⟨gb171,3,none⟩ = some (.int .i64 a1_3):=(kC BK171.out 3).trans rfl;have hfz12_0:=blk_frozen BK171.out 0;have hfz12_1:=blk_frozen BK171.out 1;have hfz12_2:=blk_frozen BK171.out 2;have hfz12_3:=blk_frozen BK171.out 3)|(go_at_call 26;(with_reducible refine (gazetteerref09_Box.calls a1_0 a1_1 a1_2 a1_3 t173 _ A8.out).mono ?_);rintro e w13 ⟨rfl,hb⟩;have n0_:=Ak (kB (g:=gb170) (o:=.cells #[.int .i64 a0_0,.int .i64 a0_1,.int .i64 a0_2,.int .i64 a0_3] 36 (0,0)) (by (with_reducible repeat (first|refine kN ?_ _|refine kD ?_|refine kA ?_ _));exact BK170.out) hb);have n1_:=Ak (kB (g:=gb171) (o:=.cells #[.int .i64 a1_0,.int .i64 a1_1,.int .i64 a1_2,.int .i64 a1_3] 36 (0,0)) (by (with_reducible repeat (first|refine kN ?_ _|refine kD ?_|refine kA ?_ _));exact BK171.out) hb);have n2_:=Ak (below_step (by repeat (first|(with_reducible first|exact HB.out|apply bA|apply bN|apply bD|refine bS ?_ GE170.out|refine bS ?_ GE171.out)|exact HB.out)) hb);clear BK170;clear BK171;clear HB;have BK170:=n0_;have BK171:=n1_;have HB:=n2_;clear n0_ n1_ n2_;(try clear hb);(try clear hb2);(try clear hk);(try clear hi)))
   repeat (go_quiet (first|(go_at_call 26;(with_reducible refine (gazetteerref09_Box.calls a0_0 a0_1 a0_2 a0_3 true _ A6.out).mono ?_);rintro e w11 ⟨rfl,hb⟩;have n0_:=Ak (kB (g:=gb170) (o:=.cells #[.int .i64 a0_0,.int .i64 a0_1,.int .i64 a0_2,.int .i64 a0_3] 36 (0,0)) (by (with_reducible repeat (first|refine kN ?_ _|refine kD ?_|refine kA ?_ _));exact BK170.out) hb);have n1_:=Ak (kB (g:=gb171) (o:=.cells #[.int .i64 a1_0,.int .i64 a1_1,.int .i64 a1_2,.int .i64 a1_3] 36 (0,0)) (by (with_reducible repeat (first|refine kN ?_ _|refine kD ?_|refine kA ?_ _));exact BK171.out) hb);have n2_:=Ak (below_step (by repeat (first|(with_reducible first|exact HB.out|apply bA|apply bN|apply bD|refine bS ?_ GE170.out|refine bS ?_ GE171.out)|exact HB.out)) hb);clear BK170;clear BK171;clear HB;have BK170:=n0_;have BK171:=n1_;have HB:=n2_;clear n0_ n1_ n2_;(try clear hb);(try clear hb2);(try clear hk);(try clear hi);have hcz12_0 : w11.cell? ⟨gb171,0,none⟩ = some (.int .i64 a1_0):=(kC BK171.out 0).trans rfl;have hcz12_1 : w11.cell? ⟨gb171,1,none⟩ = some (.int .i64 a1_1):=(kC BK171.out 1).trans rfl;have hcz12_2 : w11.cell? ⟨gb171,2,none⟩ = some (.int .i64 a1_2):=(kC BK171.out 2).trans rfl;have hcz12_3 : w11.cell? ⟨gb171,3,none⟩ = some (.int .i64 a1_3):=(kC BK171.out 3).trans rfl;have hfz12_0:=blk_frozen BK171.out 0;have hfz12_1:=blk_frozen BK171.out 1;have hfz12_2:=blk_frozen BK171.out 2;have hfz12_3:=blk_frozen BK171.out 3)|(go_at_call 26;(with_reducible refine (gazetteerref09_Box.calls a1_0 a1_1 a1_2 a1_3 t173 _ A8.out).mono ?_);rintro e w13 ⟨rfl,hb⟩;have n0_:=Ak (kB (g:=gb170) (o:=.cells #[.int .i64 a0_0,.int .i64 a0_1,.int .i64 a0_2,.int .i64 a0_3] 36 (0,0)) (by (with_reducible repeat (first|refine kN ?_ _|refine kD ?_|refine kA ?_ _));exact BK170.out) hb);have n1_:=Ak (kB (g:=gb171) (o:=.cells #[.int .i64 a1_0,.int .i64 a1_1,.int .i64 a1_2,.int .i64 a1_3] 36 (0,0)) (by (with_reducible repeat (first|refine kN ?_ _|refine kD ?_|refine kA ?_ _));exact BK171.out) hb);have n2_:=Ak (below_step (by repeat (first|(with_reducible first|exact HB.out|apply bA|apply bN|apply bD|refine bS ?_ GE170.out|refine bS ?_ GE171.out)|exact HB.out)) hb);clear BK170;clear BK171;clear HB;have BK170:=n0_;have BK171:=n1_;have HB:=n2_;clear n0_ n1_ n2_;(try clear hb);(try clear hb2);(try clear hk);(try clear hi)));try go_wp2_with (first|(go_at_call 26;(with_reducible refine (gazetteerref09_Box.calls a0_0 a0_1 a0_2 a0_3 true _ A6.out).mono ?_);rintro e w11 ⟨rfl,hb⟩;have n0_:=Ak (kB (g:=gb170) (o:=.cells #[.int .i64 a0_0,.int .i64 a0_1,.int .i64 a0_2,.int .i64 a0_3] 36 (0,0)) (by (with_reducible repeat (first|refine kN ?_ _|refine kD ?_|refine kA ?_ _));exact BK170.out) hb);have n1_:=Ak (kB (g:=gb171) (o:=.cells #[.int .i64 a1_0,.int .i64 a1_1,.int .i64 a1_2,.int .i64 a1_3] 36 (0,0)) (by (with_reducible repeat (first|refine kN ?_ _|refine kD ?_|refine kA ?_ _));exact BK171.out) hb);have n2_:=Ak (below_step (by repeat (first|(with_reducible first|exact HB.out|apply bA|apply bN|apply bD|refine bS ?_ GE170.out|refine bS ?_ GE171.out)|exact HB.out)) hb);clear BK170;clear BK171;clear HB;have BK170:=n0_;have BK171:=n1_;have HB:=n2_;clear n0_ n1_ n2_;(try clear hb);(try clear hb2);(try clear hk);(try clear hi);have hcz12_0 : w11.cell? ⟨gb171,0,none⟩ = some (.int .i64 a1_0):=(kC BK171.out 0).trans rfl;have hcz12_1 : w11.cell? ⟨gb171,1,none⟩ = some (.int .i64 a1_1):=(kC BK171.out 1).trans rfl;have hcz12_2 : w11.cell? ⟨gb171,2,none⟩ = some (.int .i64 a1_2):=(kC BK171.out 2).trans rfl;have hcz12_3 : w11.cell? ⟨gb171,3,none⟩ = some (.int .i64 a1_3):=(kC BK171.out 3).trans rfl;have hfz12_0:=blk_frozen BK171.out 0;have hfz12_1:=blk_frozen BK171.out 1;have hfz12_2:=blk_frozen BK171.out 2;have hfz12_3:=blk_frozen BK171.out 3)|(go_at_call 26;(with_reducible refine (gazetteerref09_Box.calls a1_0 a1_1 a1_2 a1_3 t173 _ A8.out).mono ?_);rintro e w13 ⟨rfl,hb⟩;have n0_:=Ak (kB (g:=gb170) (o:=.cells #[.int .i64 a0_0,.int .i64 a0_1,.int .i64 a0_2,.int .i64 a0_3] 36 (0,0)) (by (with_reducible repeat (first|refine kN ?_ _|refine kD ?_|refine kA ?_ _));exact BK170.out) hb);have n1_:=Ak (kB (g:=gb171) (o:=.cells #[.int .i64 a1_0,.int .i64 a1_1,.int .i64 a1_2,.int .i64 a1_3] 36 (0,0)) (by (with_reducible repeat (first|refine kN ?_ _|refine kD ?_|refine kA ?_ _));exact BK171.out) hb);have n2_:=Ak (below_step (by repeat (first|(with_reducible first|exact HB.out|apply bA|apply bN|apply bD|refine bS ?_ GE170.out|refine bS ?_ GE171.out)|exact HB.out)) hb);clear BK170;clear BK171;clear HB;have BK170:=n0_;have BK171:=n1_;have HB:=n2_;clear n0_ n1_ n2_;(try clear hb);(try clear hb2);(try clear hk);(try clear hi))))
   go_meet
   case rel => exact ⟨_,(!t173),(by first|rfl|(simp;done)|(simp [*];done)),H',⟨by first|omega|exact Nat.le_refl _⟩,⟨by (with_reducible repeat (first|refine kN ?_ _|refine kD ?_|refine kA ?_ _));exact BK170.out⟩,⟨by (with_reducible repeat (first|refine kN ?_ _|refine kD ?_|refine kA ?_ _));exact BK171.out⟩,⟨by repeat (first|(with_reducible first|exact HB.out|apply bA|apply bN|apply bD|refine bS ?_ GE170.out|refine bS ?_ GE171.out)|exact HB.out)⟩⟩
  ·replace c7:=Bool.eq_false_iff.mpr c7
   subst c7
   have H1 : (gazetteerref09_Meets.j0 k true a0_0 a0_1 a0_2 a0_3 a1_0 a1_1 a1_2 a1_3) = some r:=by rw [if_neg (show ¬ (false = true) by decide)] at H;exact H
   clear H
   have H:=H1
   clear H1
   have H':=Ak H
   clear H
   have hnb14:=NB170_171.out
   have hnc14:=NB171_170.out
   have hcz15_0 : w5.cell? ⟨gb170,0,none⟩ = some (.int .i64 a0_0):=(kC BK170.out 0).trans rfl
   have hcz15_1 : w5.cell? ⟨gb170,1,none⟩ = some (.int .i64 a0_1):=(kC BK170.out 1).trans rfl
   have hcz15_2 : w5.cell? ⟨gb170,2,none⟩ = some (.int .i64 a0_2):=(kC BK170.out 2).trans rfl
   have hcz15_3 : w5.cell? ⟨gb170,3,none⟩ = some (.int .i64 a0_3):=(kC BK170.out 3).trans rfl
   have hfz15_0:=blk_frozen BK170.out 0
   have hfz15_1:=blk_frozen BK170.out 1
   have hfz15_2:=blk_frozen BK170.out 2
   have hfz15_3:=blk_frozen BK170.out 3
   go_wp2_with (first|(go_at_call 26;(with_reducible refine (gazetteerref09_Box.calls a0_0 a0_1 a0_2 a0_3 false _ A6.out).mono ?_);rintro e w16 ⟨rfl,hb⟩;have n0_:=Ak (kB (g:=gb170) (o:=.cells #[.int .i64 a0_0,.int .i64 a0_1,.int .i64 a0_2,.int .i64 a0_3] 36 (0,0)) (by (with_reducible repeat (first|refine kN ?_ _|refine kD ?_|refine kA ?_ _));exact BK170.out) hb);have n1_:=Ak (kB (g:=gb171) (o:=.cells #[.int .i64 a1_0,.int .i64 a1_1,.int .i64 a1_2,.int .i64 a1_3] 36 (0,0)) (by (with_reducible repeat (first|refine kN ?_ _|refine kD ?_|refine kA ?_ _));exact BK171.out) hb);have n2_:=Ak (below_step (by repeat (first|(with_reducible first|exact HB.out|apply bA|apply bN|apply bD|refine bS ?_ GE170.out|refine bS ?_ GE171.out)|exact HB.out)) hb);clear BK170;clear BK171;clear HB;have BK170:=n0_;have BK171:=n1_;have HB:=n2_;clear n0_ n1_ n2_;(try clear hb);(try clear hb2);(try clear hk);(try clear hi)))
   repeat (go_quiet (first|(go_at_call 26;(with_reducible refine (gazetteerref09_Box.calls a0_0 a0_1 a0_2 a0_3 false _ A6.out).mono ?_);rintro e w16 ⟨rfl,hb⟩;have n0_:=Ak (kB (g:=gb170) (o:=.cells #[.int .i64 a0_0,.int .i64 a0_1,.int .i64 a0_2,.int .i64 a0_3] 36 (0,0)) (by (with_reducible repeat (first|refine kN ?_ _|refine kD ?_|refine kA ?_ _));exact BK170.out) hb);have n1_:=Ak (kB (g:=gb171) (o:=.cells #[.int .i64 a1_0,.int .i64 a1_1,.int .i64 a1_2,.int .i64 a1_3] 36 (0,0)) (by (with_reducible repeat (first|refine kN ?_ _|refine kD ?_|refine kA ?_ _));exact BK171.out) hb);have n2_:=Ak (below_step (by repeat (first|(with_reducible first|exact HB.out|apply bA|apply bN|apply bD|refine bS ?_ GE170.out|refine bS ?_ GE171.out)|exact HB.out)) hb);clear BK170;clear BK171;clear HB;have BK170:=n0_;have BK171:=n1_;have HB:=n2_;clear n0_ n1_ n2_;(try clear hb);(try clear hb2);(try clear hk);(try clear hi)));try go_wp2_with (first|(go_at_call 26;(with_reducible refine (gazetteerref09_Box.calls a0_0 a0_1 a0_2 a0_3 false _ A6.out).mono ?_);rintro e w16 ⟨rfl,hb⟩;have n0_:=Ak (kB (g:=gb170) (o:=.cells #[.int .i64 a0_0,.int .i64 a0_1,.int .i64 a0_2,.int .i64 a0_3] 36 (0,0)) (by (with_reducible repeat (first|refine kN ?_ _|refine kD ?_|refine kA ?_ _));exact BK170.out) hb);have n1_:=Ak (kB (g:=gb171) (o:=.cells #[.int .i64 a1_0,.int .i64 a1_1,.int .i64 a1_2,.int .i64 a1_3] 36 (0,0)) (by (with_reducible repeat (first|refine kN ?_ _|refine kD ?_|refine kA ?_ _));exact BK171.out) hb);have n2_:=Ak (below_step (by repeat (first|(with_reducible first|exact HB.out|apply bA|apply bN|apply bD|refine bS ?_ GE170.out|refine bS ?_ GE171.out)|exact HB.out)) hb);clear BK170;clear BK171;clear HB;have BK170:=n0_;have BK171:=n1_;have HB:=n2_;clear n0_ n1_ n2_;(try clear hb);(try clear hb2);(try clear hk);(try clear hi))))
   go_meet
   case rel => exact ⟨_,(true),(by first|rfl|(simp;done)|(simp [*];done)),H',⟨by first|omega|exact Nat.le_refl _⟩,⟨by (with_reducible repeat (first|refine kN ?_ _|refine kD ?_|refine kA ?_ _));exact BK170.out⟩,⟨by (with_reducible repeat (first|refine kN ?_ _|refine kD ?_|refine kA ?_ _));exact BK171.out⟩,⟨by repeat (first|(with_reducible first|exact HB.out|apply bA|apply bN|apply bD|refine bS ?_ GE170.out|refine bS ?_ GE171.out)|exact HB.out)⟩⟩
 case rest =>
  clear HC3
  try clear c1
  try clear p2
  try clear c5
  try clear c7
  try clear c9
  try clear c14
  try clear hcz10_0
  try clear hcz10_1
  try clear hcz10_2
  try clear hcz10_3
  try clear hcz12_0
  try clear hcz12_1
  try clear hcz12_2
  try clear hcz12_3
  try clear hcz15_0
  try clear hcz15_1
  try clear hcz15_2
  try clear hcz15_3
  try clear hfz10_0
  try clear hfz10_1
  try clear hfz10_2
  try clear hfz10_3
  try clear hfz12_0
  try clear hfz12_1
  try clear hfz12_2
  try clear hfz12_3
  try clear hfz15_0
  try clear hfz15_1
  try clear hfz15_2
  try clear hfz15_3
  obtain ⟨kq,x14_2,rfl,HA,HJ2,BK170,BK171,HB⟩:=hcut
  cases kq with
  | zero => exact absurd HA.out (by simp [gazetteerref09_Meets.j0])
  | succ kj2 =>
   have H:=HA.out
   clear HA
   simp only [gazetteerref09_Meets.j0] at H
   by_cases c17 : x14_2 = true
   ·subst c17
    have H1 : (some false) = some r:=by rw [if_pos rfl] at H;exact H
    clear H
    have H:=H1
    clear H1
    obtain rfl:=Option.some.inj H
    go_wp2
    repeat (go_quiet (fail);try go_wp2)
    go_ret
    exact ⟨by first|rfl|(simp [errW_none,errW_some] <;> rfl)|(simp [*,errW_none,errW_some] <;> rfl),by repeat (first|(with_reducible first|exact HB.out|apply bA|apply bN|apply bD|refine bS ?_ GE170.out|refine bS ?_ GE171.out)|exact HB.out)⟩
   ·replace c17:=Bool.eq_false_iff.mpr c17
    subst c17
    have H1 : (if a1_0 > a0_0 then (gazetteerref09_Meets.j1 kj2 a1_0 a0_2 a0_0 a0_1 a0_2 a0_3 a1_0 a1_1 a1_2 a1_3) else (gazetteerref09_Meets.j1 kj2 a0_0 a0_2 a0_0 a0_1 a0_2 a0_3 a1_0 a1_1 a1_2 a1_3)) = some r:=by rw [if_neg (show ¬ (false = true) by decide)] at H;exact H
    clear H
    have H:=H1
    clear H1
    have HC18:=Ak H
    clear H
    have hnb19:=NB170_171.out
    have hnc19:=NB171_170.out
    have hcz20_0 : wc.cell? ⟨gb170,0,none⟩ = some (.int .i64 a0_0):=(kC BK170.out 0).trans rfl
    have hcz20_1 : wc.cell? ⟨gb170,1,none⟩ = some (.int .i64 a0_1):=(kC BK170.out 1).trans rfl
    have hcz20_2 : wc.cell? ⟨gb170,2,none⟩ = some (.int .i64 a0_2):=(kC BK170.out 2).trans rfl
    have hcz20_3 : wc.cell? ⟨gb170,3,none⟩ = some (.int .i64 a0_3):=(kC BK170.out 3).trans rfl
    have hfz20_0:=blk_frozen BK170.out 0
    have hfz20_1:=blk_frozen BK170.out 1
    have hfz20_2:=blk_frozen BK170.out 2
    have hfz20_3:=blk_frozen BK170.out 3
    have hcz21_0 : wc.cell? ⟨gb171,0,none⟩ = some (.int .i64 a1_0):=(kC BK171.out 0).trans rfl
    have hcz21_1 : wc.cell? ⟨gb171,1,none⟩ = some (.int .i64 a1_1):=(kC BK171.out 1).trans rfl
    have hcz21_2 : wc.cell? ⟨gb171,2,none⟩ = some (.int .i64 a1_2):=(kC BK171.out 2).trans rfl
    have hcz21_3 : wc.cell? ⟨gb171,3,none⟩ = some (.int .i64 a1_3):=(kC BK171.out 3).trans rfl
    have hfz21_0:=blk_frozen BK171.out 0
    have hfz21_1:=blk_frozen BK171.out 1
    have hfz21_2:=blk_frozen BK171.out 2
    have hfz21_3:=blk_frozen BK171.out 3
    go_upto_if 22 with (fail)
    repeat (go_quiet (fail);go_upto_if 22 with (fail))
    go_cut [5] (fun v5 wc => ∃ (kq : Nat) (x5_17 : Int),v5 = .int .i64 x5_17∧Aside0 (gazetteerref09_Meets.j1 kq x5_17 a0_2 a0_0 a0_1 a0_2 a0_3 a1_0 a1_1 a1_2 a1_3 = some r)∧Aside0 (kq ≤ kj2)∧Aside0 (wc.heap[gb170]? = some (.cells #[.int .i64 a0_0,.int .i64 a0_1,.int .i64 a0_2,.int .i64 a0_3] 36 (0,0)))∧Aside0 (wc.heap[gb171]? = some (.cells #[.int .i64 a1_0,.int .i64 a1_1,.int .i64 a1_2,.int .i64 a1_3] 36 (0,0)))∧Aside0 (Below w.heap.size w wc))
    case first =>
     have H:=HC18.out
     clear HC18
     by_cases c22 : a1_0 > a0_0
     ·rw [if_pos c22] at H
      have c22b0 : decide (a0_0 < a1_0) = true:=decide_eq_true c22
      clear c22
      (first|rw [c22b0]|(simp only [i64_w,i32_w];rw [c22b0])|skip)
      have H':=Ak H
      clear H
      have hnb23:=NB171_170.out
      have hnc23:=NB170_171.out
      have hcz24_0 : wc.cell? ⟨gb171,0,none⟩ = some (.int .i64 a1_0):=(kC BK171.out 0).trans rfl
      have hcz24_1 : wc.cell? ⟨gb171,1,none⟩ = some (.int .i64 a1_1):=(kC BK171.out 1).trans rfl
      have hcz24_2 : wc.cell? ⟨gb171,2,none⟩ = some (.int .i64 a1_2):=(kC BK171.out 2).trans rfl
      have hcz24_3 : wc.cell? ⟨gb171,3,none⟩ = some (.int .i64 a1_3):=(kC BK171.out 3).trans rfl
      have hfz24_0:=blk_frozen BK171.out 0
      have hfz24_1:=blk_frozen BK171.out 1
      have hfz24_2:=blk_frozen BK171.out 2
      have hfz24_3:=blk_frozen BK171.out 3
      go_wp2
      repeat (go_quiet (fail);try go_wp2)
      go_meet
      case rel => exact ⟨_,(a1_0),(by first|rfl|(simp;done)|(simp [*];done)),H',⟨by have:=HJ2.out;first|omega|exact Nat.le_refl _⟩,⟨by (with_reducible repeat (first|refine kN ?_ _|refine kD ?_|refine kA ?_ _));exact BK170.out⟩,⟨by (with_reducible repeat (first|refine kN ?_ _|refine kD ?_|refine kA ?_ _));exact BK171.out⟩,⟨by repeat (first|(with_reducible first|exact HB.out|apply bA|apply bN|apply bD|refine bS ?_ GE170.out|refine bS ?_ GE171.out)|exact HB.out)⟩⟩
     ·rw [if_neg c22] at H
      have c22b0 : decide (a0_0 < a1_0) = false:=decide_eq_false c22
      clear c22
      (first|rw [c22b0]|(simp only [i64_w,i32_w];rw [c22b0])|skip)
      have H':=Ak H
      clear H
      go_wp2
      repeat (go_quiet (fail);try go_wp2)
      go_meet
      case rel => exact ⟨_,(a0_0),(by first|rfl|(simp;done)|(simp [*];done)),H',⟨by have:=HJ2.out;first|omega|exact Nat.le_refl _⟩,⟨by (with_reducible repeat (first|refine kN ?_ _|refine kD ?_|refine kA ?_ _));exact BK170.out⟩,⟨by (with_reducible repeat (first|refine kN ?_ _|refine kD ?_|refine kA ?_ _));exact BK171.out⟩,⟨by repeat (first|(with_reducible first|exact HB.out|apply bA|apply bN|apply bD|refine bS ?_ GE170.out|refine bS ?_ GE171.out)|exact HB.out)⟩⟩
    case rest =>
     clear HC18
     try clear c1
     try clear c2
     try clear p2
     try clear c5
     try clear c7
     try clear c9
     try clear c14
     try clear c17
     try clear c19
     try clear c22
     try clear c22b0
     try clear c23
     try clear hcz10_0
     try clear hcz10_1
     try clear hcz10_2
     try clear hcz10_3
     try clear hcz12_0
     try clear hcz12_1
     try clear hcz12_2
     try clear hcz12_3
     try clear hcz15_0
     try clear hcz15_1
     try clear hcz15_2
     try clear hcz15_3
     try clear hcz20_0
     try clear hcz20_1
     try clear hcz20_2
     try clear hcz20_3
     try clear hcz21_0
     try clear hcz21_1
     try clear hcz21_2
     try clear hcz21_3
     try clear hcz24_0
     try clear hcz24_1
     try clear hcz24_2
     try clear hcz24_3
     try clear hfz10_0
     try clear hfz10_1
     try clear hfz10_2
     try clear hfz10_3
     try clear hfz12_0
     try clear hfz12_1
     try clear hfz12_2
     try clear hfz12_3
     try clear hfz15_0
     try clear hfz15_1
     try clear hfz15_2
     try clear hfz15_3
     try clear hfz20_0
     try clear hfz20_1
     try clear hfz20_2
     try clear hfz20_3
     try clear hfz21_0
     try clear hfz21_1
     try clear hfz21_2
     try clear hfz21_3
     try clear hfz24_0
     try clear hfz24_1
     try clear hfz24_2
     try clear hfz24_3
     try clear p2
     obtain ⟨kq,x5_17,rfl,HA,HJ17,BK170,BK171,HB⟩:=hcut
     cases kq with
     | zero => exact absurd HA.out (by simp [gazetteerref09_Meets.j1])
     | succ kj17 =>
      have H:=HA.out
      clear HA
      simp only [gazetteerref09_Meets.j1] at H
      have HC25:=Ak H
      clear H
      have hnb26:=NB171_170.out
      have hnc26:=NB170_171.out
      have hcz27_0 : wc.cell? ⟨gb171,0,none⟩ = some (.int .i64 a1_0):=(kC BK171.out 0).trans rfl
      have hcz27_1 : wc.cell? ⟨gb171,1,none⟩ = some (.int .i64 a1_1):=(kC BK171.out 1).trans rfl
      have hcz27_2 : wc.cell? ⟨gb171,2,none⟩ = some (.int .i64 a1_2):=(kC BK171.out 2).trans rfl
      have hcz27_3 : wc.cell? ⟨gb171,3,none⟩ = some (.int .i64 a1_3):=(kC BK171.out 3).trans rfl
      have hfz27_0:=blk_frozen BK171.out 0
      have hfz27_1:=blk_frozen BK171.out 1
      have hfz27_2:=blk_frozen BK171.out 2
      have hfz27_3:=blk_frozen BK171.out 3
      go_upto_if 28 with (fail)
      repeat (go_quiet (fail);go_upto_if 28 with (fail))
      go_cut [6] (fun v6 wc => ∃ (kq : Nat) (x6_24 : Int),v6 = .int .i64 x6_24∧Aside0 (gazetteerref09_Meets.j2 kq x5_17 x6_24 a0_0 a0_1 a0_2 a0_3 a1_0 a1_1 a1_2 a1_3 = some r)∧Aside0 (kq ≤ kj17)∧Aside0 (wc.heap[gb170]? = some (.cells #[.int .i64 a0_0,.int .i64 a0_1,.int .i64 a0_2,.int .i64 a0_3] 36 (0,0)))∧Aside0 (wc.heap[gb171]? = some (.cells #[.int .i64 a1_0,.int .i64 a1_1,.int .i64 a1_2,.int .i64 a1_3] 36 (0,0)))∧Aside0 (Below w.heap.size w wc))
      case first =>
       have H:=HC25.out
       clear HC25
       by_cases c28 : a1_2 > a0_2
       ·rw [if_pos c28] at H
        have c28b0 : decide (a0_2 < a1_2) = true:=decide_eq_true c28
        clear c28
        (first|rw [c28b0]|(simp only [i64_w,i32_w];rw [c28b0])|skip)
        have H':=Ak H
        clear H
        have hnb29:=NB171_170.out
        have hnc29:=NB170_171.out
        have hcz30_0 : wc.cell? ⟨gb171,0,none⟩ = some (.int .i64 a1_0):=(kC BK171.out 0).trans rfl
        have hcz30_1 : wc.cell? ⟨gb171,1,none⟩ = some (.int .i64 a1_1):=(kC BK171.out 1).trans rfl
        have hcz30_2 : wc.cell? ⟨gb171,2,none⟩ = some (.int .i64 a1_2):=(kC BK171.out 2).trans rfl
        have hcz30_3 : wc.cell? ⟨gb171,3,none⟩ = some (.int .i64 a1_3):=(kC BK171.out 3).trans rfl
        have hfz30_0:=blk_frozen BK171.out 0
        have hfz30_1:=blk_frozen BK171.out 1
        have hfz30_2:=blk_frozen BK171.out 2
        have hfz30_3:=blk_frozen BK171.out 3
        go_wp2
        repeat (go_quiet (fail);try go_wp2)
        go_meet
        case rel => exact ⟨_,(a1_2),(by first|rfl|(simp;done)|(simp [*];done)),H',⟨by have:=HJ2.out;have:=HJ17.out;first|omega|exact Nat.le_refl _⟩,⟨by (with_reducible repeat (first|refine kN ?_ _|refine kD ?_|refine kA ?_ _));exact BK170.out⟩,⟨by (with_reducible repeat (first|refine kN ?_ _|refine kD ?_|refine kA ?_ _));exact BK171.out⟩,⟨by repeat (first|(with_reducible first|exact HB.out|apply bA|apply bN|apply bD|refine bS ?_ GE170.out|refine bS ?_ GE171.out)|exact HB.out)⟩⟩
       ·rw [if_neg c28] at H
        have c28b0 : decide (a0_2 < a1_2) = false:=decide_eq_false c28
        clear c28
        (first|rw [c28b0]|(simp only [i64_w,i32_w];rw [c28b0])|skip)
        have H':=Ak H
        clear H
        go_wp2
        repeat (go_quiet (fail);try go_wp2)
        go_meet
        case rel => exact ⟨_,(a0_2),(by first|rfl|(simp;done)|(simp [*];done)),H',⟨by have:=HJ2.out;have:=HJ17.out;first|omega|exact Nat.le_refl _⟩,⟨by (with_reducible repeat (first|refine kN ?_ _|refine kD ?_|refine kA ?_ _));exact BK170.out⟩,⟨by (with_reducible repeat (first|refine kN ?_ _|refine kD ?_|refine kA ?_ _));exact BK171.out⟩,⟨by repeat (first|(with_reducible first|exact HB.out|apply bA|apply bN|apply bD|refine bS ?_ GE170.out|refine bS ?_ GE171.out)|exact HB.out)⟩⟩
      case rest =>
       clear HC25
       try clear c1
       try clear c2
       try clear p2
       try clear c5
       try clear c7
       try clear c9
       try clear c14
       try clear c17
       try clear c19
       try clear c22
       try clear c22b0
       try clear c23
       try clear c26
       try clear c28
       try clear c28b0
       try clear c29
       try clear hcz10_0
       try clear hcz10_1
       try clear hcz10_2
       try clear hcz10_3
       try clear hcz12_0
       try clear hcz12_1
       try clear hcz12_2
       try clear hcz12_3
       try clear hcz15_0
       try clear hcz15_1
       try clear hcz15_2
       try clear hcz15_3
       try clear hcz20_0
       try clear hcz20_1
       try clear hcz20_2
       try clear hcz20_3
       try clear hcz21_0
       try clear hcz21_1
       try clear hcz21_2
       try clear hcz21_3
       try clear hcz24_0
       try clear hcz24_1
       try clear hcz24_2
       try clear hcz24_3
       try clear hcz27_0
       try clear hcz27_1
       try clear hcz27_2
       try clear hcz27_3
       try clear hcz30_0
       try clear hcz30_1
       try clear hcz30_2
       try clear hcz30_3
       try clear hfz10_0
       try clear hfz10_1
       try clear hfz10_2
       try clear hfz10_3
       try clear hfz12_0
       try clear hfz12_1
       try clear hfz12_2
       try clear hfz12_3
       try clear hfz15_0
       try clear hfz15_1
       try clear hfz15_2
       try clear hfz15_3
       try clear hfz20_0
       try clear hfz20_1
       try clear hfz20_2
       try clear hfz20_3
       try clear hfz21_0
       try clear hfz21_1
       try clear hfz21_2
       try clear hfz21_3
       try clear hfz24_0
       try clear hfz24_1
       try clear hfz24_2
       try clear hfz24_3
       try clear hfz27_0
       try clear hfz27_1
       try clear hfz27_2
       try clear hfz27_3
       try clear hfz30_0
       try clear hfz30_1
       try clear hfz30_2
       try clear hfz30_3
       try clear p2
       obtain ⟨kq,x6_24,rfl,HA,HJ24,BK170,BK171,HB⟩:=hcut
       cases kq with
       | zero => exact absurd HA.out (by simp [gazetteerref09_Meets.j2])
       | succ kj24 =>
        have H:=HA.out
        clear HA
        simp only [gazetteerref09_Meets.j2] at H
        replace H:=Option.bind_eq_some_iff.mp H
        obtain ⟨t174,A310,H⟩:=H
        replace H : (if t174 = true then ((gazetteerref09_inside.f a1_0 a1_1 x5_17).bind fun t175 => (if t175 = true then ((gazetteerref09_inside.f a0_2 a0_3 x6_24).bind fun t176 => (if t176 = true then ((gazetteerref09_inside.f a1_2 a1_3 x6_24).bind fun t177 => (some t177)) else (some false))) else (some false))) else (some false)) = some r:=H
        have A31:=Ak A310
        clear A310
        by_cases c32 : t174 = true
        ·subst c32
         have H1 : ((gazetteerref09_inside.f a1_0 a1_1 x5_17).bind fun t175 => (if t175 = true then ((gazetteerref09_inside.f a0_2 a0_3 x6_24).bind fun t176 => (if t176 = true then ((gazetteerref09_inside.f a1_2 a1_3 x6_24).bind fun t177 => (some t177)) else (some false))) else (some false))) = some r:=by rw [if_pos rfl] at H;exact H
         clear H
         have H:=H1
         clear H1
         replace H:=Option.bind_eq_some_iff.mp H
         obtain ⟨t175,A330,H⟩:=H
         replace H : (if t175 = true then ((gazetteerref09_inside.f a0_2 a0_3 x6_24).bind fun t176 => (if t176 = true then ((gazetteerref09_inside.f a1_2 a1_3 x6_24).bind fun t177 => (some t177)) else (some false))) else (some false)) = some r:=H
         have A33:=Ak A330
         clear A330
         by_cases c34 : t175 = true
         ·subst c34
          have H1 : ((gazetteerref09_inside.f a0_2 a0_3 x6_24).bind fun t176 => (if t176 = true then ((gazetteerref09_inside.f a1_2 a1_3 x6_24).bind fun t177 => (some t177)) else (some false))) = some r:=by rw [if_pos rfl] at H;exact H
          clear H
          have H:=H1
          clear H1
          replace H:=Option.bind_eq_some_iff.mp H
          obtain ⟨t176,A350,H⟩:=H
          replace H : (if t176 = true then ((gazetteerref09_inside.f a1_2 a1_3 x6_24).bind fun t177 => (some t177)) else (some false)) = some r:=H
          have A35:=Ak A350
          clear A350
          by_cases c36 : t176 = true
          ·subst c36
           have H1 : ((gazetteerref09_inside.f a1_2 a1_3 x6_24).bind fun t177 => (some t177)) = some r:=by rw [if_pos rfl] at H;exact H
           clear H
           have H:=H1
           clear H1
           replace H:=Option.bind_eq_some_iff.mp H
           obtain ⟨t177,A370,H⟩:=H
           replace H : (some t177) = some r:=H
           have A37:=Ak A370
           clear A370
           obtain rfl:=Option.some.inj H
           have hnb38:=NB170_171.out
           have hnc38:=NB171_170.out
           have hcz39_0 : wc.cell? ⟨gb170,0,none⟩ = some (.int .i64 a0_0):=(kC BK170.out 0).trans rfl
           have hcz39_1 : wc.cell? ⟨gb170,1,none⟩ = some (.int .i64 a0_1):=(kC BK170.out 1).trans rfl
           have hcz39_2 : wc.cell? ⟨gb170,2,none⟩ = some (.int .i64 a0_2):=(kC BK170.out 2).trans rfl
           have hcz39_3 : wc.cell? ⟨gb170,3,none⟩ = some (.int .i64 a0_3):=(kC BK170.out 3).trans rfl
           have hfz39_0:=blk_frozen BK170.out 0
           have hfz39_1:=blk_frozen BK170.out 1
           have hfz39_2:=blk_frozen BK170.out 2
           have hfz39_3:=blk_frozen BK170.out 3
           go_wp2_with (first|(go_at_call 73;(with_reducible refine (gazetteerref09_inside.calls a0_0 a0_1 x5_17 true _ A31.out).mono ?_);rintro e w' ⟨rfl,⟨nd,rfl⟩⟩;(try first|exact ⟨rfl,_,World.drewN_drewN _ _ _⟩|exact ⟨rfl,_,Eq.trans (World.drewN_drewN _ _ _) (congrArg (World.drewN _) (Nat.add_assoc _ _ _))⟩);have hcz40_0 : wc.cell? ⟨gb171,0,none⟩ = some (.int .i64 a1_0):=(kC BK171.out 0).trans rfl;have hcz40_1 : wc.cell? ⟨gb171,1,none⟩ = some (.int .i64 a1_1):=(kC BK171.out 1).trans rfl;have hcz40_2 : wc.cell? ⟨gb171,2,none⟩ = some (.int .i64 a1_2):=(kC BK171.out 2).trans rfl;have hcz40_3 : wc.cell? ⟨gb171,3,none⟩ = some (.int .i64 a1_3):=(kC BK171.out 3).trans rfl;have hfz40_0:=blk_frozen BK171.out 0;have hfz40_1:=blk_frozen BK171.out 1;have hfz40_2:=blk_frozen BK171.out 2;have hfz40_3:=blk_frozen BK171.out 3)|(go_at_call 73;(with_reducible refine (gazetteerref09_inside.calls a1_0 a1_1 x5_17 true _ A33.out).mono ?_);rintro e w' ⟨rfl,⟨nd,rfl⟩⟩;(try first|exact ⟨rfl,_,World.drewN_drewN _ _ _⟩|exact ⟨rfl,_,Eq.trans (World.drewN_drewN _ _ _) (congrArg (World.drewN _) (Nat.add_assoc _ _ _))⟩))|(go_at_call 73;(with_reducible refine (gazetteerref09_inside.calls a0_2 a0_3 x6_24 true _ A35.out).mono ?_);rintro e w' ⟨rfl,⟨nd,rfl⟩⟩;(try first|exact ⟨rfl,_,World.drewN_drewN _ _ _⟩|exact ⟨rfl,_,Eq.trans (World.drewN_drewN _ _ _) (congrArg (World.drewN _) (Nat.add_assoc _ _ _))⟩))|(go_at_call 73;(with_reducible refine (gazetteerref09_inside.calls a1_2 a1_3 x6_24 t177 _ A37.out).mono ?_);rintro e w' ⟨rfl,⟨nd,rfl⟩⟩;(try first|exact ⟨rfl,_,World.drewN_drewN _ _ _⟩|exact ⟨rfl,_,Eq.trans (World.drewN_drewN _ _ _) (congrArg (World.drewN _) (Nat.add_assoc _ _ _))⟩)))
           repeat (go_quiet (first|(go_at_call 73;(with_reducible refine (gazetteerref09_inside.calls a0_0 a0_1 x5_17 true _ A31.out).mono ?_);rintro e w' ⟨rfl,⟨nd,rfl⟩⟩;(try first|exact ⟨rfl,_,World.drewN_drewN _ _ _⟩|exact ⟨rfl,_,Eq.trans (World.drewN_drewN _ _ _) (congrArg (World.drewN _) (Nat.add_assoc _ _ _))⟩);have hcz40_0 : wc.cell? ⟨gb171,0,none⟩ = some (.int .i64 a1_0):=(kC BK171.out 0).trans rfl;have hcz40_1 : wc.cell? ⟨gb171,1,none⟩ = some (.int .i64 a1_1):=(kC BK171.out 1).trans rfl;have hcz40_2 : wc.cell? ⟨gb171,2,none⟩ = some (.int .i64 a1_2):=(kC BK171.out 2).trans rfl;have hcz40_3 : wc.cell? ⟨gb171,3,none⟩ = some (.int .i64 a1_3):=(kC BK171.out 3).trans rfl;have hfz40_0:=blk_frozen BK171.out 0;have hfz40_1:=blk_frozen BK171.out 1;have hfz40_2:=blk_frozen BK171.out 2;have hfz40_3:=blk_frozen BK171.out 3)|(go_at_call 73;(with_reducible refine (gazetteerref09_inside.calls a1_0 a1_1 x5_17 true _ A33.out).mono ?_);rintro e w' ⟨rfl,⟨nd,rfl⟩⟩;(try first|exact ⟨rfl,_,World.drewN_drewN _ _ _⟩|exact ⟨rfl,_,Eq.trans (World.drewN_drewN _ _ _) (congrArg (World.drewN _) (Nat.add_assoc _ _ _))⟩))|(go_at_call 73;(with_reducible refine (gazetteerref09_inside.calls a0_2 a0_3 x6_24 true _ A35.out).mono ?_);rintro e w' ⟨rfl,⟨nd,rfl⟩⟩;(try first|exact ⟨rfl,_,World.drewN_drewN _ _ _⟩|exact ⟨rfl,_,Eq.trans (World.drewN_drewN _ _ _) (congrArg (World.drewN _) (Nat.add_assoc _ _ _))⟩))|(go_at_call 73;(with_reducible refine (gazetteerref09_inside.calls a1_2 a1_3 x6_24 t177 _ A37.out).mono ?_);rintro e w' ⟨rfl,⟨nd,rfl⟩⟩;(try first|exact ⟨rfl,_,World.drewN_drewN _ _ _⟩|exact ⟨rfl,_,Eq.trans (World.drewN_drewN _ _ _) (congrArg (World.drewN _) (Nat.add_assoc _ _ _))⟩)));try go_wp2_with (first|(go_at_call 73;(with_reducible refine (gazetteerref09_inside.calls a0_0 a0_1 x5_17 true _ A31.out).mono ?_);rintro e w' ⟨rfl,⟨nd,rfl⟩⟩;(try first|exact ⟨rfl,_,World.drewN_drewN _ _ _⟩|exact ⟨rfl,_,Eq.trans (World.drewN_drewN _ _ _) (congrArg (World.drewN _) (Nat.add_assoc _ _ _))⟩);have hcz40_0 : wc.cell? ⟨gb171,0,none⟩ = some (.int .i64 a1_0):=(kC BK171.out 0).trans rfl;have hcz40_1 : wc.cell? ⟨gb171,1,none⟩ = some (.int .i64 a1_1):=(kC BK171.out 1).trans rfl;have hcz40_2 : wc.cell? ⟨gb171,2,none⟩ = some (.int .i64 a1_2):=(kC BK171.out 2).trans rfl;have hcz40_3 : wc.cell? ⟨gb171,3,none⟩ = some (.int .i64 a1_3):=(kC BK171.out 3).trans rfl;have hfz40_0:=blk_frozen BK171.out 0;have hfz40_1:=blk_frozen BK171.out 1;have hfz40_2:=blk_frozen BK171.out 2;have hfz40_3:=blk_frozen BK171.out 3)|(go_at_call 73;(with_reducible refine (gazetteerref09_inside.calls a1_0 a1_1 x5_17 true _ A33.out).mono ?_);rintro e w' ⟨rfl,⟨nd,rfl⟩⟩;(try first|exact ⟨rfl,_,World.drewN_drewN _ _ _⟩|exact ⟨rfl,_,Eq.trans (World.drewN_drewN _ _ _) (congrArg (World.drewN _) (Nat.add_assoc _ _ _))⟩))|(go_at_call 73;(with_reducible refine (gazetteerref09_inside.calls a0_2 a0_3 x6_24 true _ A35.out).mono ?_);rintro e w' ⟨rfl,⟨nd,rfl⟩⟩;(try first|exact ⟨rfl,_,World.drewN_drewN _ _ _⟩|exact ⟨rfl,_,Eq.trans (World.drewN_drewN _ _ _) (congrArg (World.drewN _) (Nat.add_assoc _ _ _))⟩))|(go_at_call 73;(with_reducible refine (gazetteerref09_inside.calls a1_2 a1_3 x6_24 t177 _ A37.out).mono ?_);rintro e w' ⟨rfl,⟨nd,rfl⟩⟩;(try first|exact ⟨rfl,_,World.drewN_drewN _ _ _⟩|exact ⟨rfl,_,Eq.trans (World.drewN_drewN _ _ _) (congrArg (World.drewN _) (Nat.add_assoc _ _ _))⟩))))
           go_ret
           exact ⟨by first|rfl|(simp [errW_none,errW_some] <;> rfl)|(simp [*,errW_none,errW_some] <;> rfl),by repeat (first|(with_reducible first|exact HB.out|apply bA|apply bN|apply bD|refine bS ?_ GE170.out|refine bS ?_ GE171.out)|exact HB.out)⟩
          ·replace c36:=Bool.eq_false_iff.mpr c36
           subst c36
           have H1 : (some false) = some r:=by rw [if_neg (show ¬ (false = true) by decide)] at H;exact H
           clear H
           have H:=H1
           clear H1
           obtain rfl:=Option.some.inj H
           have hnb41:=NB170_171.out
           have hnc41:=NB171_170.out
           have hcz42_0 : wc.cell? ⟨gb170,0,none⟩ = some (.int .i64 a0_0):=(kC BK170.out 0).trans rfl
           have hcz42_1 : wc.cell? ⟨gb170,1,none⟩ = some (.int .i64 a0_1):=(kC BK170.out 1).trans rfl
           have hcz42_2 : wc.cell? ⟨gb170,2,none⟩ = some (.int .i64 a0_2):=(kC BK170.out 2).trans rfl
           have hcz42_3 : wc.cell? ⟨gb170,3,none⟩ = some (.int .i64 a0_3):=(kC BK170.out 3).trans rfl
           have hfz42_0:=blk_frozen BK170.out 0
           have hfz42_1:=blk_frozen BK170.out 1
           have hfz42_2:=blk_frozen BK170.out 2
           have hfz42_3:=blk_frozen BK170.out 3
           go_wp2_with (first|(go_at_call 73;(with_reducible refine (gazetteerref09_inside.calls a0_0 a0_1 x5_17 true _ A31.out).mono ?_);rintro e w' ⟨rfl,⟨nd,rfl⟩⟩;(try first|exact ⟨rfl,_,World.drewN_drewN _ _ _⟩|exact ⟨rfl,_,Eq.trans (World.drewN_drewN _ _ _) (congrArg (World.drewN _) (Nat.add_assoc _ _ _))⟩);have hcz43_0 : wc.cell? ⟨gb171,0,none⟩ = some (.int .i64 a1_0):=(kC BK171.out 0).trans rfl;have hcz43_1 : wc.cell? ⟨gb171,1,none⟩ = some (.int .i64 a1_1):=(kC BK171.out 1).trans rfl;have hcz43_2 : wc.cell? ⟨gb171,2,none⟩ = some (.int .i64 a1_2):=(kC BK171.out 2).trans rfl;have hcz43_3 : wc.cell? ⟨gb171,3,none⟩ = some (.int .i64 a1_3):=(kC BK171.out 3).trans rfl;have hfz43_0:=blk_frozen BK171.out 0;have hfz43_1:=blk_frozen BK171.out 1;have hfz43_2:=blk_frozen BK171.out 2;have hfz43_3:=blk_frozen BK171.out 3)|(go_at_call 73;(with_reducible refine (gazetteerref09_inside.calls a1_0 a1_1 x5_17 true _ A33.out).mono ?_);rintro e w' ⟨rfl,⟨nd,rfl⟩⟩;(try first|exact ⟨rfl,_,World.drewN_drewN _ _ _⟩|exact ⟨rfl,_,Eq.trans (World.drewN_drewN _ _ _) (congrArg (World.drewN _) (Nat.add_assoc _ _ _))⟩))|(go_at_call 73;(with_reducible refine (gazetteerref09_inside.calls a0_2 a0_3 x6_24 false _ A35.out).mono ?_);rintro e w' ⟨rfl,⟨nd,rfl⟩⟩;(try first|exact ⟨rfl,_,World.drewN_drewN _ _ _⟩|exact ⟨rfl,_,Eq.trans (World.drewN_drewN _ _ _) (congrArg (World.drewN _) (Nat.add_assoc _ _ _))⟩)))
           repeat (go_quiet (first|(go_at_call 73;(with_reducible refine (gazetteerref09_inside.calls a0_0 a0_1 x5_17 true _ A31.out).mono ?_);rintro e w' ⟨rfl,⟨nd,rfl⟩⟩;(try first|exact ⟨rfl,_,World.drewN_drewN _ _ _⟩|exact ⟨rfl,_,Eq.trans (World.drewN_drewN _ _ _) (congrArg (World.drewN _) (Nat.add_assoc _ _ _))⟩);have hcz43_0 : wc.cell? ⟨gb171,0,none⟩ = some (.int .i64 a1_0):=(kC BK171.out 0).trans rfl;have hcz43_1 : wc.cell? ⟨gb171,1,none⟩ = some (.int .i64 a1_1):=(kC BK171.out 1).trans rfl;have hcz43_2 : wc.cell? ⟨gb171,2,none⟩ = some (.int .i64 a1_2):=(kC BK171.out 2).trans rfl;have hcz43_3 : wc.cell? ⟨gb171,3,none⟩ = some (.int .i64 a1_3):=(kC BK171.out 3).trans rfl;have hfz43_0:=blk_frozen BK171.out 0;have hfz43_1:=blk_frozen BK171.out 1;have hfz43_2:=blk_frozen BK171.out 2;have hfz43_3:=blk_frozen BK171.out 3)|(go_at_call 73;(with_reducible refine (gazetteerref09_inside.calls a1_0 a1_1 x5_17 true _ A33.out).mono ?_);rintro e w' ⟨rfl,⟨nd,rfl⟩⟩;(try first|exact ⟨rfl,_,World.drewN_drewN _ _ _⟩|exact ⟨rfl,_,Eq.trans (World.drewN_drewN _ _ _) (congrArg (World.drewN _) (Nat.add_assoc _ _ _))⟩))|(go_at_call 73;(with_reducible refine (gazetteerref09_inside.calls a0_2 a0_3 x6_24 false _ A35.out).mono ?_);rintro e w' ⟨rfl,⟨nd,rfl⟩⟩;(try first|exact ⟨rfl,_,World.drewN_drewN _ _ _⟩|exact ⟨rfl,_,Eq.trans (World.drewN_drewN _ _ _) (congrArg (World.drewN _) (Nat.add_assoc _ _ _))⟩)));try go_wp2_with (first|(go_at_call 73;(with_reducible refine (gazetteerref09_inside.calls a0_0 a0_1 x5_17 true _ A31.out).mono ?_);rintro e w' ⟨rfl,⟨nd,rfl⟩⟩;(try first|exact ⟨rfl,_,World.drewN_drewN _ _ _⟩|exact ⟨rfl,_,Eq.trans (World.drewN_drewN _ _ _) (congrArg (World.drewN _) (Nat.add_assoc _ _ _))⟩);have hcz43_0 : wc.cell? ⟨gb171,0,none⟩ = some (.int .i64 a1_0):=(kC BK171.out 0).trans rfl;have hcz43_1 : wc.cell? ⟨gb171,1,none⟩ = some (.int .i64 a1_1):=(kC BK171.out 1).trans rfl;have hcz43_2 : wc.cell? ⟨gb171,2,none⟩ = some (.int .i64 a1_2):=(kC BK171.out 2).trans rfl;have hcz43_3 : wc.cell? ⟨gb171,3,none⟩ = some (.int .i64 a1_3):=(kC BK171.out 3).trans rfl;have hfz43_0:=blk_frozen BK171.out 0;have hfz43_1:=blk_frozen BK171.out 1;have hfz43_2:=blk_frozen BK171.out 2;have hfz43_3:=blk_frozen BK171.out 3)|(go_at_call 73;(with_reducible refine (gazetteerref09_inside.calls a1_0 a1_1 x5_17 true _ A33.out).mono ?_);rintro e w' ⟨rfl,⟨nd,rfl⟩⟩;(try first|exact ⟨rfl,_,World.drewN_drewN _ _ _⟩|exact ⟨rfl,_,Eq.trans (World.drewN_drewN _ _ _) (congrArg (World.drewN _) (Nat.add_assoc _ _ _))⟩))|(go_at_call 73;(with_reducible refine (gazetteerref09_inside.calls a0_2 a0_3 x6_24 false _ A35.out).mono ?_);rintro e w' ⟨rfl,⟨nd,rfl⟩⟩;(try first|exact ⟨rfl,_,World.drewN_drewN _ _ _⟩|exact ⟨rfl,_,Eq.trans (World.drewN_drewN _ _ _) (congrArg (World.drewN _) (Nat.add_assoc _ _ _))⟩))))
           go_ret
           exact ⟨by first|rfl|(simp [errW_none,errW_some] <;> rfl)|(simp [*,errW_none,errW_some] <;> rfl),by repeat (first|(with_reducible first|exact HB.out|apply bA|apply bN|apply bD|refine bS ?_ GE170.out|refine bS ?_ GE171.out)|exact HB.out)⟩
         ·replace c34:=Bool.eq_false_iff.mpr c34
          subst c34
          have H1 : (some false) = some r:=by rw [if_neg (show ¬ (false = true) by decide)] at H;exact H
          clear H
          have H:=H1
          clear H1
          obtain rfl:=Option.some.inj H
          have hnb44:=NB170_171.out
          have hnc44:=NB171_170.out
          have hcz45_0 : wc.cell? ⟨gb170,0,none⟩ = some (.int .i64 a0_0):=(kC BK170.out 0).trans rfl
          have hcz45_1 : wc.cell? ⟨gb170,1,none⟩ = some (.int .i64 a0_1):=(kC BK170.out 1).trans rfl
          have hcz45_2 : wc.cell? ⟨gb170,2,none⟩ = some (.int .i64 a0_2):=(kC BK170.out 2).trans rfl
          have hcz45_3 : wc.cell? ⟨gb170,3,none⟩ = some (.int .i64 a0_3):=(kC BK170.out 3).trans rfl
          have hfz45_0:=blk_frozen BK170.out 0
          have hfz45_1:=blk_frozen BK170.out 1
          have hfz45_2:=blk_frozen BK170.out 2
          have hfz45_3:=blk_frozen BK170.out 3
          go_wp2_with (first|(go_at_call 73;(with_reducible refine (gazetteerref09_inside.calls a0_0 a0_1 x5_17 true _ A31.out).mono ?_);rintro e w' ⟨rfl,⟨nd,rfl⟩⟩;(try first|exact ⟨rfl,_,World.drewN_drewN _ _ _⟩|exact ⟨rfl,_,Eq.trans (World.drewN_drewN _ _ _) (congrArg (World.drewN _) (Nat.add_assoc _ _ _))⟩);have hcz46_0 : wc.cell? ⟨gb171,0,none⟩ = some (.int .i64 a1_0):=(kC BK171.out 0).trans rfl;have hcz46_1 : wc.cell? ⟨gb171,1,none⟩ = some (.int .i64 a1_1):=(kC BK171.out 1).trans rfl;have hcz46_2 : wc.cell? ⟨gb171,2,none⟩ = some (.int .i64 a1_2):=(kC BK171.out 2).trans rfl;have hcz46_3 : wc.cell? ⟨gb171,3,none⟩ = some (.int .i64 a1_3):=(kC BK171.out 3).trans rfl;have hfz46_0:=blk_frozen BK171.out 0;have hfz46_1:=blk_frozen BK171.out 1;have hfz46_2:=blk_frozen BK171.out 2;have hfz46_3:=blk_frozen BK171.out 3)|(go_at_call 73;(with_reducible refine (gazetteerref09_inside.calls a1_0 a1_1 x5_17 false _ A33.out).mono ?_);rintro e w' ⟨rfl,⟨nd,rfl⟩⟩;(try first|exact ⟨rfl,_,World.drewN_drewN _ _ _⟩|exact ⟨rfl,_,Eq.trans (World.drewN_drewN _ _ _) (congrArg (World.drewN _) (Nat.add_assoc _ _ _))⟩)))
          repeat (go_quiet (first|(go_at_call 73;(with_reducible refine (gazetteerref09_inside.calls a0_0 a0_1 x5_17 true _ A31.out).mono ?_);rintro e w' ⟨rfl,⟨nd,rfl⟩⟩;(try first|exact ⟨rfl,_,World.drewN_drewN _ _ _⟩|exact ⟨rfl,_,Eq.trans (World.drewN_drewN _ _ _) (congrArg (World.drewN _) (Nat.add_assoc _ _ _))⟩);have hcz46_0 : wc.cell? ⟨gb171,0,none⟩ = some (.int .i64 a1_0):=(kC BK171.out 0).trans rfl;have hcz46_1 : wc.cell? ⟨gb171,1,none⟩ = some (.int .i64 a1_1):=(kC BK171.out 1).trans rfl;have hcz46_2 : wc.cell? ⟨gb171,2,none⟩ = some (.int .i64 a1_2):=(kC BK171.out 2).trans rfl;have hcz46_3 : wc.cell? ⟨gb171,3,none⟩ = some (.int .i64 a1_3):=(kC BK171.out 3).trans rfl;have hfz46_0:=blk_frozen BK171.out 0;have hfz46_1:=blk_frozen BK171.out 1;have hfz46_2:=blk_frozen BK171.out 2;have hfz46_3:=blk_frozen BK171.out 3)|(go_at_call 73;(with_reducible refine (gazetteerref09_inside.calls a1_0 a1_1 x5_17 false _ A33.out).mono ?_);rintro e w' ⟨rfl,⟨nd,rfl⟩⟩;(try first|exact ⟨rfl,_,World.drewN_drewN _ _ _⟩|exact ⟨rfl,_,Eq.trans (World.drewN_drewN _ _ _) (congrArg (World.drewN _) (Nat.add_assoc _ _ _))⟩)));try go_wp2_with (first|(go_at_call 73;(with_reducible refine (gazetteerref09_inside.calls a0_0 a0_1 x5_17 true _ A31.out).mono ?_);rintro e w' ⟨rfl,⟨nd,rfl⟩⟩;(try first|exact ⟨rfl,_,World.drewN_drewN _ _ _⟩|exact ⟨rfl,_,Eq.trans (World.drewN_drewN _ _ _) (congrArg (World.drewN _) (Nat.add_assoc _ _ _))⟩);have hcz46_0 : wc.cell? ⟨gb171,0,none⟩ = some (.int .i64 a1_0):=(kC BK171.out 0).trans rfl;have hcz46_1 : wc.cell? ⟨gb171,1,none⟩ = some (.int .i64 a1_1):=(kC BK171.out 1).trans rfl;have hcz46_2 : wc.cell? ⟨gb171,2,none⟩ = some (.int .i64 a1_2):=(kC BK171.out 2).trans rfl;have hcz46_3 : wc.cell? ⟨gb171,3,none⟩ = some (.int .i64 a1_3):=(kC BK171.out 3).trans rfl;have hfz46_0:=blk_frozen BK171.out 0;have hfz46_1:=blk_frozen BK171.out 1;have hfz46_2:=blk_frozen BK171.out 2;have hfz46_3:=blk_frozen BK171.out 3)|(go_at_call 73;(with_reducible refine (gazetteerref09_inside.calls a1_0 a1_1 x5_17 false _ A33.out).mono ?_);rintro e w' ⟨rfl,⟨nd,rfl⟩⟩;(try first|exact ⟨rfl,_,World.drewN_drewN _ _ _⟩|exact ⟨rfl,_,Eq.trans (World.drewN_drewN _ _ _) (congrArg (World.drewN _) (Nat.add_assoc _ _ _))⟩))))
          go_ret
          exact ⟨by first|rfl|(simp [errW_none,errW_some] <;> rfl)|(simp [*,errW_none,errW_some] <;> rfl),by repeat (first|(with_reducible first|exact HB.out|apply bA|apply bN|apply bD|refine bS ?_ GE170.out|refine bS ?_ GE171.out)|exact HB.out)⟩
        ·replace c32:=Bool.eq_false_iff.mpr c32
         subst c32
         have H1 : (some false) = some r:=by rw [if_neg (show ¬ (false = true) by decide)] at H;exact H
         clear H
         have H:=H1
         clear H1
         obtain rfl:=Option.some.inj H
         have hnb47:=NB170_171.out
         have hnc47:=NB171_170.out
         have hcz48_0 : wc.cell? ⟨gb170,0,none⟩ = some (.int .i64 a0_0):=(kC BK170.out 0).trans rfl
         have hcz48_1 : wc.cell? ⟨gb170,1,none⟩ = some (.int .i64 a0_1):=(kC BK170.out 1).trans rfl
         have hcz48_2 : wc.cell? ⟨gb170,2,none⟩ = some (.int .i64 a0_2):=(kC BK170.out 2).trans rfl
         have hcz48_3 : wc.cell? ⟨gb170,3,none⟩ = some (.int .i64 a0_3):=(kC BK170.out 3).trans rfl
         have hfz48_0:=blk_frozen BK170.out 0
         have hfz48_1:=blk_frozen BK170.out 1
         have hfz48_2:=blk_frozen BK170.out 2
         have hfz48_3:=blk_frozen BK170.out 3
         go_wp2_with (first|(go_at_call 73;(with_reducible refine (gazetteerref09_inside.calls a0_0 a0_1 x5_17 false _ A31.out).mono ?_);rintro e w' ⟨rfl,⟨nd,rfl⟩⟩;(try first|exact ⟨rfl,_,World.drewN_drewN _ _ _⟩|exact ⟨rfl,_,Eq.trans (World.drewN_drewN _ _ _) (congrArg (World.drewN _) (Nat.add_assoc _ _ _))⟩)))
         repeat (go_quiet (first|(go_at_call 73;(with_reducible refine (gazetteerref09_inside.calls a0_0 a0_1 x5_17 false _ A31.out).mono ?_);rintro e w' ⟨rfl,⟨nd,rfl⟩⟩;(try first|exact ⟨rfl,_,World.drewN_drewN _ _ _⟩|exact ⟨rfl,_,Eq.trans (World.drewN_drewN _ _ _) (congrArg (World.drewN _) (Nat.add_assoc _ _ _))⟩)));try go_wp2_with (first|(go_at_call 73;(with_reducible refine (gazetteerref09_inside.calls a0_0 a0_1 x5_17 false _ A31.out).mono ?_);rintro e w' ⟨rfl,⟨nd,rfl⟩⟩;(try first|exact ⟨rfl,_,World.drewN_drewN _ _ _⟩|exact ⟨rfl,_,Eq.trans (World.drewN_drewN _ _ _) (congrArg (World.drewN _) (Nat.add_assoc _ _ _))⟩))))
         go_ret
         exact ⟨by first|rfl|(simp [errW_none,errW_some] <;> rfl)|(simp [*,errW_none,errW_some] <;> rfl),by repeat (first|(with_reducible first|exact HB.out|apply bA|apply bN|apply bD|refine bS ?_ GE170.out|refine bS ?_ GE171.out)|exact HB.out)⟩
def gazetteerref22_Meets.l0 : Nat → List (S51) → List (S51) → Int → Int → Int → Int → Int → Int → Option ((List (S51)))
  | 0, _, _, _, _, _, _, _, _ => none
  | k + 1, x5, x9, x10, x11, x180000, x180001, x180002, x180003 => if x11 < x10 then (if 0 ≤ x11 then (if x11 < (x9.length : Int) then ((gazetteerref09_Meets.f k ((rd_T51 x9 x11).f1.f0) ((rd_T51 x9 x11).f1.f1) ((rd_T51 x9 x11).f1.f2) ((rd_T51 x9 x11).f1.f3) x180000 x180001 x180002 x180003).bind fun t182 => (if t182 = true then (if x5.length < 2932031007402 then (gazetteerref22_Meets.l0 k (x5 ++ [(⟨(rd_T51 x9 x11).f0, (⟨(rd_T51 x9 x11).f1.f0, (rd_T51 x9 x11).f1.f1, (rd_T51 x9 x11).f1.f2, (rd_T51 x9 x11).f1.f3⟩ : S36), (rd_T51 x9 x11).f2⟩ : S51)]) x9 x10 (wrap64 (x11 + 1)) x180000 x180001 x180002 x180003) else (none)) else (gazetteerref22_Meets.l0 k x5 x9 x10 (wrap64 (x11 + 1)) x180000 x180001 x180002 x180003))) else (none)) else (none)) else (some x5)
def gazetteerref22_Meets.f (k : Nat) (l0_0 : List (S51)) (a1_0 : Int) (a1_1 : Int) (a1_2 : Int) (a1_3 : Int) : Option ((List (S51))) := gazetteerref22_Meets.l0 k ([] : List (S51)) l0_0 (l0_0.length : Int) 0 a1_0 a1_1 a1_2 a1_3
set_option maxHeartbeats 8000000 in
set_option maxRecDepth 100000 in
theorem gazetteerref22_Meets.calls (k : Nat) (A0_0 : Option Addr) (c0_0 : Nat) (l0_0 : List (S51)) (a1_0 : Int) (a1_1 : Int) (a1_2 : Int) (a1_3 : Int) (r : List (S51)) (w : World) (hr0_0 : Kd.C k51 w A0_0 l0_0.length l0_0) (hc0_0 : l0_0.length ≤ c0_0) (h : gazetteerref22_Meets.f k l0_0 a1_0 a1_1 a1_2 a1_3 = some r) :
  Calls Try.prog 27 #[.agg #[.slice A0_0 l0_0.length c0_0],.agg #[.int .i64 a1_0,.int .i64 a1_1,.int .i64 a1_2,.int .i64 a1_3]] w fun e w' => ∃ v0_ : Value,e = .returned (v0_)∧Kd.R k51 51 w' w.heap.size (fun _ => True) v0_ r∧Below w.heap.size w w':=by
 have hu24:=Try.underlying24
 have hu36:=Try.underlying36
 have hu51:=Try.underlying51
 have HR0_0:=Ak hr0_0
 have HC0_0:=Ak hc0_0
 clear hr0_0 hc0_0
 have HB:=Ak (Below.refl w.heap.size w)
 have H : (gazetteerref22_Meets.l0 k ([] : List (S51)) l0_0 (l0_0.length : Int) 0 a1_0 a1_1 a1_2 a1_3) = some r:=h
 clear h
 have H':=Ak H
 clear H
 go_enter Try.func27,Try.ntmps27
 go_wp2_with (first|((with_reducible refine gate_dst (N:=2) rfl ?_);refine box_event ?hg (N:=2) ?hd (cs:=#[.slice A0_0 l0_0.length c0_0]) (t:=24) ?hr ?_;(case hd => rfl);(case hg => rfl);(case hr => first|(go_simp;done)|(go_simp;rfl));intro gb178 hg w3 hbox hb;have n0_:=Ak (below_step (by repeat (first|(with_reducible first|exact HB.out|apply bA|apply bN|apply bD)|exact HB.out)) hb);have n1_:=Ak (hbox);have n2_:=Ak ((by rw [hg];exact (below_size (by repeat (first|(with_reducible first|exact HB.out|apply bA|apply bN|apply bD)|exact HB.out))) : w.heap.size ≤ gb178));have n3_:=Ak ((by rw [hg];exact (below_size (by repeat (first|(with_reducible first|exact HB.out|apply bA|apply bN|apply bD)|exact HB.out))) : w.heap.size ≤ gb178));clear HB;have HB:=n0_;have BK178:=n1_;have GW178:=n2_;have GE178:=n3_;clear n0_ n1_ n2_ n3_;clear hb hbox hg)|((with_reducible refine gate_dst (N:=3) rfl ?_);refine box_event ?hg (N:=3) ?hd (cs:=#[.int .i64 a1_0,.int .i64 a1_1,.int .i64 a1_2,.int .i64 a1_3]) (t:=36) ?hr ?_;(case hd => rfl);(case hg => rfl);(case hr => first|(go_simp;done)|(go_simp;rfl));intro gb179 hg w4 hbox hb;have n0_:=Ak (kB (g:=gb178) (o:=.cells #[.slice A0_0 l0_0.length c0_0] 24 (0,0)) (by (with_reducible repeat (first|refine kN ?_ _|refine kD ?_|refine kA ?_ _));exact BK178.out) hb);have n1_:=Ak (below_step (by repeat (first|(with_reducible first|exact HB.out|apply bA|apply bN|apply bD|refine bS ?_ GE178.out)|exact HB.out)) hb);have n2_:=Ak (hbox);have n3_:=Ak ((by rw [hg];exact (below_size (by repeat (first|(with_reducible first|exact HB.out|apply bA|apply bN|apply bD|refine bS ?_ GE178.out)|exact HB.out))) : w.heap.size ≤ gb179));have n4_:=Ak ((by rw [hg];exact (below_size (by repeat (first|(with_reducible first|exact HB.out|apply bA|apply bN|apply bD|refine bS ?_ GE178.out)|exact HB.out))) : w.heap.size ≤ gb179));have n5_:=Ak ((by rw [hg];exact Nat.ne_of_lt (blk_lt (g:=gb178) (o:=.cells #[.slice A0_0 l0_0.length c0_0] 24 (0,0)) (by (with_reducible repeat (first|refine kN ?_ _|refine kD ?_|refine kA ?_ _));exact BK178.out)) : gb178 ≠ gb179));have n6_:=Ak ((by rw [hg];exact Nat.ne_of_gt (blk_lt (g:=gb178) (o:=.cells #[.slice A0_0 l0_0.length c0_0] 24 (0,0)) (by (with_reducible repeat (first|refine kN ?_ _|refine kD ?_|refine kA ?_ _));exact BK178.out)) : gb179 ≠ gb178));clear BK178;clear HB;have BK178:=n0_;have HB:=n1_;have BK179:=n2_;have GW179:=n3_;have GE179:=n4_;have NB178_179:=n5_;have NB179_178:=n6_;clear n0_ n1_ n2_ n3_ n4_ n5_ n6_;clear hb hbox hg;have hnb5:=NB178_179.out;have hnc5:=NB179_178.out;have hcz6_0 : w4.cell? ⟨gb178,0,none⟩ = some (.slice A0_0 l0_0.length c0_0):=(kC BK178.out 0).trans rfl;have hfz6_0:=blk_frozen BK178.out 0))
 go_loopg [5,11] k (fun kq v5 v11 w' => ∃ (x5_1 : List (S51)) (x11_1 : Int),v11 = .int .i64 x11_1∧Aside0 (gazetteerref22_Meets.l0 kq x5_1 l0_0 (l0_0.length : Int) x11_1 a1_0 a1_1 a1_2 a1_3 = some r)∧Aside0 (kq ≤ k)∧Aside0 (Kd.R k51 51 w' w.heap.size (fun _ => True) v5 x5_1)∧Aside0 (w'.heap[gb178]? = some (.cells #[(.slice A0_0 l0_0.length c0_0)] 24 (0,0)))∧Aside0 (w'.heap[gb179]? = some (.cells #[.int .i64 a1_0,.int .i64 a1_1,.int .i64 a1_2,.int .i64 a1_3] 36 (0,0)))∧Aside0 (Below w.heap.size w w'))
 case atStart => exact ⟨(([] : List (S51))),(0),(by first|rfl|(simp;done)|(simp [*];done)),H',⟨Nat.le_refl _⟩,⟨by first|exact Kd.R_nil _ _ _ _ _|exact Kd.N_nil _ _ _ _ _|exact Kd.V_nil _ _ _ _ _|exact Kd.Q_nil _ _ _ _ _|exact Kd.S_nil _ _ _ _ _⟩,⟨by (with_reducible repeat (first|refine kN ?_ _|refine kD ?_|refine kA ?_ _));exact BK178.out⟩,⟨by (with_reducible repeat (first|refine kN ?_ _|refine kD ?_|refine kA ?_ _));exact BK179.out⟩,⟨by repeat (first|(with_reducible first|exact HB.out|apply bA|apply bN|apply bD|refine bS ?_ GE178.out|refine bS ?_ GE179.out)|exact HB.out)⟩⟩
 case round =>
  clear H'
  try clear c2
  try clear p2
  try clear c5
  try clear hcz6_0
  try clear hfz6_0
  obtain ⟨x5_1,x11_1,rfl,HA,HK1,HO_5,BK178,BK179,HB⟩:=hrel
  cases gk with
  | zero => exact absurd HA.out (by simp [gazetteerref22_Meets.l0])
  | succ k1 =>
   have H:=HA.out
   clear HA
   simp only [gazetteerref22_Meets.l0] at H
   by_cases c7 : x11_1 < (l0_0.length : Int)
   ·rw [if_pos c7] at H
    have c7b0 : decide (x11_1 < (l0_0.length : Int)) = true:=decide_eq_true c7
    clear c7
    by_cases c8 : 0 ≤ x11_1
    ·rw [if_pos c8] at H
     have c8b0 : decide (0 ≤ x11_1) = true:=decide_eq_true c8
     clear c8
     by_cases c9 : x11_1 < (l0_0.length : Int)
     ·rw [if_pos c9] at H
      have c9b0 : decide (x11_1 < (l0_0.length : Int)) = true:=decide_eq_true c9
      clear c9
      replace H:=Option.bind_eq_some_iff.mp H
      obtain ⟨t182,A100,H⟩:=H
      replace H : (if t182 = true then (if x5_1.length < 2932031007402 then (gazetteerref22_Meets.l0 k1 (x5_1 ++ [(⟨(rd_T51 l0_0 x11_1).f0,(⟨(rd_T51 l0_0 x11_1).f1.f0,(rd_T51 l0_0 x11_1).f1.f1,(rd_T51 l0_0 x11_1).f1.f2,(rd_T51 l0_0 x11_1).f1.f3⟩ : S36),(rd_T51 l0_0 x11_1).f2⟩ : S51)]) l0_0 (l0_0.length : Int) (wrap64 (x11_1+1)) a1_0 a1_1 a1_2 a1_3) else (none)) else (gazetteerref22_Meets.l0 k1 x5_1 l0_0 (l0_0.length : Int) (wrap64 (x11_1+1)) a1_0 a1_1 a1_2 a1_3)) = some r:=H
      have A10:=Ak A100
      clear A100
      by_cases c11 : t182 = true
      ·subst c11
       have H1 : (if x5_1.length < 2932031007402 then (gazetteerref22_Meets.l0 k1 (x5_1 ++ [(⟨(rd_T51 l0_0 x11_1).f0,(⟨(rd_T51 l0_0 x11_1).f1.f0,(rd_T51 l0_0 x11_1).f1.f1,(rd_T51 l0_0 x11_1).f1.f2,(rd_T51 l0_0 x11_1).f1.f3⟩ : S36),(rd_T51 l0_0 x11_1).f2⟩ : S51)]) l0_0 (l0_0.length : Int) (wrap64 (x11_1+1)) a1_0 a1_1 a1_2 a1_3) else (none)) = some r:=by rw [if_pos rfl] at H;exact H
       clear H
       have H:=H1
       clear H1
       by_cases c12 : x5_1.length < 2932031007402
       ·rw [if_pos c12] at H
        have LMc12:=Ak c12
        clear c12
        obtain ⟨y183,hy183⟩ : ∃ y_ : List (S51),y_ = (x5_1 ++ [(⟨(rd_T51 l0_0 x11_1).f0,(⟨(rd_T51 l0_0 x11_1).f1.f0,(rd_T51 l0_0 x11_1).f1.f1,(rd_T51 l0_0 x11_1).f1.f2,(rd_T51 l0_0 x11_1).f1.f3⟩ : S36),(rd_T51 l0_0 x11_1).f2⟩ : S51)]):=⟨_,rfl⟩
        replace H : (gazetteerref22_Meets.l0 k1 y183 l0_0 (l0_0.length : Int) (wrap64 (x11_1+1)) a1_0 a1_1 a1_2 a1_3) = some r:=by first|(rw [hy183];with_reducible exact H)|(have H2_:=(Option.bind_some _ _).symm.trans H;rw [hy183];with_reducible exact H2_)|(have H2_:=(Option.bind_some _ _).symm.trans H;with_reducible exact H2_)|with_reducible exact H|(rw [hy183];exact H)|exact H
        have Ny183:=Ak hy183
        clear hy183
        have H':=Ak H
        clear H
        have p180 : 0 ≤ (x11_1 : Int):=of_decide_eq_true (by first|(with_reducible assumption)|assumption)
        have q180 : x11_1 < (l0_0.length : Int):=of_decide_eq_true (by first|(with_reducible assumption)|assumption)
        obtain ⟨ad180,e180,hx180_0,hx180_1,hx180_2,hx180_3,hx180_4,hx180_5⟩:=at_T51 HR0_0.out x11_1 p180 q180
        cases e180
        replace hx180_0:=(HB.out.cell (World.block_lt_of_cell? w _ hx180_0)).trans hx180_0
        replace hx180_1:=(HB.out.cell (World.block_lt_of_cell? w _ hx180_1)).trans hx180_1
        replace hx180_2:=(HB.out.cell (World.block_lt_of_cell? w _ hx180_2)).trans hx180_2
        replace hx180_3:=(HB.out.cell (World.block_lt_of_cell? w _ hx180_3)).trans hx180_3
        replace hx180_4:=(HB.out.cell (World.block_lt_of_cell? w _ hx180_4)).trans hx180_4
        replace hx180_5:=(HB.out.cell (World.block_lt_of_cell? w _ hx180_5)).trans hx180_5
        replace p180:=eq_true p180
        replace q180:=eq_true q180
        go_wp2_with (first|((with_reducible refine gate_dst (N:=7) rfl ?_);refine box_event ?hg (N:=7) ?hd (cs:=#[.int .u32 0,.int .i64 0,.int .i64 0,.int .i64 0,.int .i64 0,.int .i64 0]) (t:=51) ?hr ?_;(case hd => rfl);(case hg => rfl);(case hr => first|(go_simp;done)|(go_simp;rfl));intro gb181 hg w13 hbox hb;have n0_:=Ak (Kd.R_below (Kd.R_elderB (by (with_reducible repeat (first|apply Kd.R_alloc|apply Kd.R_drewN|apply Kd.R_drew));exact HO_5.out) gb181 (Nat.le_of_eq hg.symm)) hb);have n1_:=Ak (kB (g:=gb178) (o:=.cells #[.slice (some ad180) l0_0.length c0_0] 24 (0,0)) (by (with_reducible repeat (first|refine kN ?_ _|refine kD ?_|refine kA ?_ _));exact BK178.out) hb);have n2_:=Ak (kB (g:=gb179) (o:=.cells #[.int .i64 a1_0,.int .i64 a1_1,.int .i64 a1_2,.int .i64 a1_3] 36 (0,0)) (by (with_reducible repeat (first|refine kN ?_ _|refine kD ?_|refine kA ?_ _));exact BK179.out) hb);have n3_:=Ak (below_step (by repeat (first|(with_reducible first|exact HB.out|apply bA|apply bN|apply bD|refine bS ?_ GE178.out|refine bS ?_ GE179.out)|exact HB.out)) hb);have n4_:=Ak (hbox);have n5_:=Ak ((by rw [hg];exact (below_size (by repeat (first|(with_reducible first|exact HB.out|apply bA|apply bN|apply bD|refine bS ?_ GE178.out|refine bS ?_ GE179.out)|exact HB.out))) : w.heap.size ≤ gb181));have n6_:=Ak ((by rw [hg];exact (below_size (by repeat (first|(with_reducible first|exact HB.out|apply bA|apply bN|apply bD|refine bS ?_ GE178.out|refine bS ?_ GE179.out)|exact HB.out))) : w.heap.size ≤ gb181));have n7_:=Ak ((by rw [hg];exact Nat.ne_of_lt (blk_lt (g:=gb178) (o:=.cells #[.slice (some ad180) l0_0.length c0_0] 24 (0,0)) (by (with_reducible repeat (first|refine kN ?_ _|refine kD ?_|refine kA ?_ _));exact BK178.out)) : gb178 ≠ gb181));have n8_:=Ak ((by rw [hg];exact Nat.ne_of_gt (blk_lt (g:=gb178) (o:=.cells #[.slice (some ad180) l0_0.length c0_0] 24 (0,0)) (by (with_reducible repeat (first|refine kN ?_ _|refine kD ?_|refine kA ?_ _));exact BK178.out)) : gb181 ≠ gb178));have n9_:=Ak ((by rw [hg];exact Nat.ne_of_lt (blk_lt (g:=gb179) (o:=.cells #[.int .i64 a1_0,.int .i64 a1_1,.int .i64 a1_2,.int .i64 a1_3] 36 (0,0)) (by (with_reducible repeat (first|refine kN ?_ _|refine kD ?_|refine kA ?_ _));exact BK179.out)) : gb179 ≠ gb181));have n10_:=Ak ((by rw [hg];exact Nat.ne_of_gt (blk_lt (g:=gb179) (o:=.cells #[.int .i64 a1_0,.int .i64 a1_1,.int .i64 a1_2,.int .i64 a1_3] 36 (0,0)) (by (with_reducible repeat (first|refine kN ?_ _|refine kD ?_|refine kA ?_ _));exact BK179.out)) : gb181 ≠ gb179));clear HO_5;clear BK178;clear BK179;clear HB;have HO_5:=n0_;have BK178:=n1_;have BK179:=n2_;have HB:=n3_;have BK181:=n4_;have GW181:=n5_;have GE181:=n6_;have NB178_181:=n7_;have NB181_178:=n8_;have NB179_181:=n9_;have NB181_179:=n10_;clear n0_ n1_ n2_ n3_ n4_ n5_ n6_ n7_ n8_ n9_ n10_;clear hb hbox hg;have hnb14:=NB181_178.out;have hnc14:=NB178_181.out;have hnb15:=NB181_179.out;have hnc15:=NB179_181.out;have hcz16_0 : w13.cell? ⟨gb181,0,none⟩ = some (.int .u32 0):=(kC BK181.out 0).trans rfl;have hcz16_1 : w13.cell? ⟨gb181,1,none⟩ = some (.int .i64 0):=(kC BK181.out 1).trans rfl;have hcz16_2 : w13.cell? ⟨gb181,2,none⟩ = some (.int .i64 0):=(kC BK181.out 2).trans rfl;have hcz16_3 : w13.cell? ⟨gb181,3,none⟩ = some (.int .i64 0):=(kC BK181.out 3).trans rfl;have hcz16_4 : w13.cell? ⟨gb181,4,none⟩ = some (.int .i64 0):=(kC BK181.out 4).trans rfl;have hcz16_5 : w13.cell? ⟨gb181,5,none⟩ = some (.int .i64 0):=(kC BK181.out 5).trans rfl;have hfz16_0:=blk_frozen BK181.out 0;have hfz16_1:=blk_frozen BK181.out 1;have hfz16_2:=blk_frozen BK181.out 2;have hfz16_3:=blk_frozen BK181.out 3;have hfz16_4:=blk_frozen BK181.out 4;have hfz16_5:=blk_frozen BK181.out 5;have hnb17:=NB179_178.out;have hnc17:=NB178_179.out;have hcz18_0 : w13.cell? ⟨gb179,0,none⟩ = some (.int .i64 a1_0):=(kC BK179.out 0).trans rfl;have hcz18_1 : w13.cell? ⟨gb179,1,none⟩ = some (.int .i64 a1_1):=(kC BK179.out 1).trans rfl;have hcz18_2 : w13.cell? ⟨gb179,2,none⟩ = some (.int .i64 a1_2):=(kC BK179.out 2).trans rfl;have hcz18_3 : w13.cell? ⟨gb179,3,none⟩ = some (.int .i64 a1_3):=(kC BK179.out 3).trans rfl;have hfz18_0:=blk_frozen BK179.out 0;have hfz18_1:=blk_frozen BK179.out 1;have hfz18_2:=blk_frozen BK179.out 2;have hfz18_3:=blk_frozen BK179.out 3)|((with_reducible refine gate_callee (f:=52) rfl ?_);refine goesL_ (some 18) rfl rfl Try.func52 (by kernel_rfl) rfl #[.agg #[.int .i64 ((rd_T51 l0_0 x11_1).f1.f0),.int .i64 ((rd_T51 l0_0 x11_1).f1.f1),.int .i64 ((rd_T51 l0_0 x11_1).f1.f2),.int .i64 ((rd_T51 l0_0 x11_1).f1.f3)],.agg #[.int .i64 a1_0,.int .i64 a1_1,.int .i64 a1_2,.int .i64 a1_3]] rfl (by (try simp only [List.map_toArray,List.map_cons,List.map_nil]);first|done|rfl|(simp only [List.length_drop,List.length_take];rfl)) ?_;(with_reducible refine (gazetteerref09_Meets.calls k1 ((rd_T51 l0_0 x11_1).f1.f0) ((rd_T51 l0_0 x11_1).f1.f1) ((rd_T51 l0_0 x11_1).f1.f2) ((rd_T51 l0_0 x11_1).f1.f3) a1_0 a1_1 a1_2 a1_3 true _ A10.out).mono ?_);rintro e w19 ⟨rfl,hb⟩;refine ⟨_,rfl,?_⟩;have n0_:=Ak (Kd.R_below (by (with_reducible repeat (first|apply Kd.R_alloc|apply Kd.R_drewN|apply Kd.R_drew));exact (Kd.R_mono (Kd.R_far (p:=⟨gb181,5,none⟩) (Kd.R_far (p:=⟨gb181,4,none⟩) (Kd.R_far (p:=⟨gb181,3,none⟩) (Kd.R_far (p:=⟨gb181,2,none⟩) (Kd.R_far (p:=⟨gb181,1,none⟩) (Kd.R_far (p:=⟨gb181,0,none⟩) (Kd.R_mono HO_5.out (fun k_ hk => (⟨hk,hk.2⟩ : _∧k_ ≠ gb181))) (fun _ hk => hk.2) (.int .u32 ((rd_T51 l0_0 x11_1).f0))) (fun _ hk => hk.2) (.int .i64 ((rd_T51 l0_0 x11_1).f1.f0))) (fun _ hk => hk.2) (.int .i64 ((rd_T51 l0_0 x11_1).f1.f1))) (fun _ hk => hk.2) (.int .i64 ((rd_T51 l0_0 x11_1).f1.f2))) (fun _ hk => hk.2) (.int .i64 ((rd_T51 l0_0 x11_1).f1.f3))) (fun _ hk => hk.2) (.int .i64 ((rd_T51 l0_0 x11_1).f2))) (fun _ h_ => h_.1))) hb);have n1_:=Ak (kB (g:=gb178) (o:=.cells #[.slice (some ad180) l0_0.length c0_0] 24 (0,0)) (by (with_reducible repeat (first|refine kN ?_ _|refine kD ?_|refine kA ?_ _));refine blk_far ?_ NB178_181.out _;(with_reducible repeat (first|refine kN ?_ _|refine kD ?_|refine kA ?_ _));refine blk_far ?_ NB178_181.out _;(with_reducible repeat (first|refine kN ?_ _|refine kD ?_|refine kA ?_ _));refine blk_far ?_ NB178_181.out _;(with_reducible repeat (first|refine kN ?_ _|refine kD ?_|refine kA ?_ _));refine blk_far ?_ NB178_181.out _;(with_reducible repeat (first|refine kN ?_ _|refine kD ?_|refine kA ?_ _));refine blk_far ?_ NB178_181.out _;(with_reducible repeat (first|refine kN ?_ _|refine kD ?_|refine kA ?_ _));refine blk_far ?_ NB178_181.out _;(with_reducible repeat (first|refine kN ?_ _|refine kD ?_|refine kA ?_ _));exact BK178.out) hb);have n2_:=Ak (kB (g:=gb179) (o:=.cells #[.int .i64 a1_0,.int .i64 a1_1,.int .i64 a1_2,.int .i64 a1_3] 36 (0,0)) (by (with_reducible repeat (first|refine kN ?_ _|refine kD ?_|refine kA ?_ _));refine blk_far ?_ NB179_181.out _;(with_reducible repeat (first|refine kN ?_ _|refine kD ?_|refine kA ?_ _));refine blk_far ?_ NB179_181.out _;(with_reducible repeat (first|refine kN ?_ _|refine kD ?_|refine kA ?_ _));refine blk_far ?_ NB179_181.out _;(with_reducible repeat (first|refine kN ?_ _|refine kD ?_|refine kA ?_ _));refine blk_far ?_ NB179_181.out _;(with_reducible repeat (first|refine kN ?_ _|refine kD ?_|refine kA ?_ _));refine blk_far ?_ NB179_181.out _;(with_reducible repeat (first|refine kN ?_ _|refine kD ?_|refine kA ?_ _));refine blk_far ?_ NB179_181.out _;(with_reducible repeat (first|refine kN ?_ _|refine kD ?_|refine kA ?_ _));exact BK179.out) hb);have n3_:=Ak (kB (g:=gb181) (o:=.cells #[.int .u32 ((rd_T51 l0_0 x11_1).f0),.int .i64 ((rd_T51 l0_0 x11_1).f1.f0),.int .i64 ((rd_T51 l0_0 x11_1).f1.f1),.int .i64 ((rd_T51 l0_0 x11_1).f1.f2),.int .i64 ((rd_T51 l0_0 x11_1).f1.f3),.int .i64 ((rd_T51 l0_0 x11_1).f2)] 51 (0,0)) (by (with_reducible repeat (first|refine kN ?_ _|refine kD ?_|refine kA ?_ _));refine blk_put (cs:=#[.int .u32 ((rd_T51 l0_0 x11_1).f0),.int .i64 ((rd_T51 l0_0 x11_1).f1.f0),.int .i64 ((rd_T51 l0_0 x11_1).f1.f1),.int .i64 ((rd_T51 l0_0 x11_1).f1.f2),.int .i64 ((rd_T51 l0_0 x11_1).f1.f3),.int .i64 0]) ?_ 5 _ rfl;(with_reducible repeat (first|refine kN ?_ _|refine kD ?_|refine kA ?_ _));refine blk_put (cs:=#[.int .u32 ((rd_T51 l0_0 x11_1).f0),.int .i64 ((rd_T51 l0_0 x11_1).f1.f0),.int .i64 ((rd_T51 l0_0 x11_1).f1.f1),.int .i64 ((rd_T51 l0_0 x11_1).f1.f2),.int .i64 0,.int .i64 0]) ?_ 4 _ rfl;(with_reducible repeat (first|refine kN ?_ _|refine kD ?_|refine kA ?_ _));refine blk_put (cs:=#[.int .u32 ((rd_T51 l0_0 x11_1).f0),.int .i64 ((rd_T51 l0_0 x11_1).f1.f0),.int .i64 ((rd_T51 l0_0 x11_1).f1.f1),.int .i64 0,.int .i64 0,.int .i64 0]) ?_ 3 _ rfl;(with_reducible repeat (first|refine kN ?_ _|refine kD ?_|refine kA ?_ _));refine blk_put (cs:=#[.int .u32 ((rd_T51 l0_0 x11_1).f0),.int .i64 ((rd_T51 l0_0 x11_1).f1.f0),.int .i64 0,.int .i64 0,.int .i64 0,.int .i64 0]) ?_ 2 _ rfl;(with_reducible repeat (first|refine kN ?_ _|refine kD ?_|refine kA ?_ _));refine blk_put (cs:=#[.int .u32 ((rd_T51 l0_0 x11_1).f0),.int .i64 0,.int .i64 0,.int .i64 0,.int .i64 0,.int .i64 0]) ?_ 1 _ rfl;(with_reducible repeat (first|refine kN ?_ _|refine kD ?_|refine kA ?_ _));refine blk_put (cs:=#[.int .u32 0,.int .i64 0,.int .i64 0,.int .i64 0,.int .i64 0,.int .i64 0]) ?_ 0 _ rfl;(with_reducible repeat (first|refine kN ?_ _|refine kD ?_|refine kA ?_ _));exact BK181.out) hb);have n4_:=Ak (below_step (by repeat (first|(with_reducible first|exact HB.out|apply bA|apply bN|apply bD|refine bS ?_ GE178.out|refine bS ?_ GE179.out|refine bS ?_ GE181.out)|exact HB.out)) hb);clear HO_5;clear BK178;clear BK179;clear BK181;clear HB;have HO_5:=n0_;have BK178:=n1_;have BK179:=n2_;have BK181:=n3_;have HB:=n4_;clear n0_ n1_ n2_ n3_ n4_;(try clear hb);(try clear hb2);(try clear hk);(try clear hi);have hcz20_0 : w19.cell? ⟨gb181,0,none⟩ = some (.int .u32 ((rd_T51 l0_0 x11_1).f0)):=(kC BK181.out 0).trans rfl;have hcz20_1 : w19.cell? ⟨gb181,1,none⟩ = some (.int .i64 ((rd_T51 l0_0 x11_1).f1.f0)):=(kC BK181.out 1).trans rfl;have hcz20_2 : w19.cell? ⟨gb181,2,none⟩ = some (.int .i64 ((rd_T51 l0_0 x11_1).f1.f1)):=(kC BK181.out 2).trans rfl;have hcz20_3 : w19.cell? ⟨gb181,3,none⟩ = some (.int .i64 ((rd_T51 l0_0 x11_1).f1.f2)):=(kC BK181.out 3).trans rfl;have hcz20_4 : w19.cell? ⟨gb181,4,none⟩ = some (.int .i64 ((rd_T51 l0_0 x11_1).f1.f3)):=(kC BK181.out 4).trans rfl;have hcz20_5 : w19.cell? ⟨gb181,5,none⟩ = some (.int .i64 ((rd_T51 l0_0 x11_1).f2)):=(kC BK181.out 5).trans rfl;have hfz20_0:=blk_frozen BK181.out 0;have hfz20_1:=blk_frozen BK181.out 1;have hfz20_2:=blk_frozen BK181.out 2;have hfz20_3:=blk_frozen BK181.out 3;have hfz20_4:=blk_frozen BK181.out 4;have hfz20_5:=blk_frozen BK181.out 5)|((with_reducible refine gate_builtin (b:=.append) (xs:=#[.tmp 19,.tmp 21]) rfl ?_);at_builtin;refine Kd.R_append k51 (w0:=w) w.heap.size rfl (.tmp 19) (.tmp 21) 22 51 (.agg #[(.int .u32 0),(.int .i64 0),(.int .i64 0),(.int .i64 0),(.int .i64 0),(.int .i64 0)]) 48 rfl Try.underlying22 info51 rfl (by decide) (by omega) u5 x5_1 (⟨(rd_T51 l0_0 x11_1).f0,(⟨(rd_T51 l0_0 x11_1).f1.f0,(rd_T51 l0_0 x11_1).f1.f1,(rd_T51 l0_0 x11_1).f1.f2,(rd_T51 l0_0 x11_1).f1.f3⟩ : S36),(rd_T51 l0_0 x11_1).f2⟩ : S51) [.int .u32 ((rd_T51 l0_0 x11_1).f0),.int .i64 ((rd_T51 l0_0 x11_1).f1.f0),.int .i64 ((rd_T51 l0_0 x11_1).f1.f1),.int .i64 ((rd_T51 l0_0 x11_1).f1.f2),.int .i64 ((rd_T51 l0_0 x11_1).f1.f3),.int .i64 ((rd_T51 l0_0 x11_1).f2)] (fun k_ => k_ ≠ gb181) (fun _ => False) rfl rfl ?aP (fun _ hk => hk.elim) ?aF ?aO ?aB ?aS ?aL ?_;(case aP => exact k51_mkM _ _ _ (⟨(rd_T51 l0_0 x11_1).f0,(⟨(rd_T51 l0_0 x11_1).f1.f0,(rd_T51 l0_0 x11_1).f1.f1,(rd_T51 l0_0 x11_1).f1.f2,(rd_T51 l0_0 x11_1).f1.f3⟩ : S36),(rd_T51 l0_0 x11_1).f2⟩ : S51));(case aB => exact (by repeat (first|(with_reducible first|exact HB.out|apply bA|apply bN|apply bD|refine bS ?_ GE178.out|refine bS ?_ GE179.out|refine bS ?_ GE181.out)|exact HB.out)));(case aF => exact (fun k_ hk => Kd.freshB (g:=gb181) (o:=.cells #[.int .u32 ((rd_T51 l0_0 x11_1).f0),.int .i64 ((rd_T51 l0_0 x11_1).f1.f0),.int .i64 ((rd_T51 l0_0 x11_1).f1.f1),.int .i64 ((rd_T51 l0_0 x11_1).f1.f2),.int .i64 ((rd_T51 l0_0 x11_1).f1.f3),.int .i64 ((rd_T51 l0_0 x11_1).f2)] 51 (0,0)) (by (with_reducible repeat (first|refine kN ?_ _|refine kD ?_|refine kA ?_ _));exact BK181.out) k_ hk));(case aO => exact (by (with_reducible repeat (first|apply Kd.R_alloc|apply Kd.R_drewN|apply Kd.R_drew));exact Kd.R_mono HO_5.out (fun _ hk => hk.2)));(case aS => exact (below_size (by repeat (first|(with_reducible first|exact HB.out|apply bA|apply bN|apply bD|refine bS ?_ GE178.out|refine bS ?_ GE179.out|refine bS ?_ GE181.out)|exact HB.out))));(case aL => have:=LMc12.out;omega);intro v184 w21 ho hb hg hat;rw [← Ny183.out] at ho;have n0_:=Ak (blk_grown (g:=gb178) (o:=.cells #[.slice (some ad180) l0_0.length c0_0] 24 (0,0)) (by (with_reducible repeat (first|refine kN ?_ _|refine kD ?_|refine kA ?_ _));exact BK178.out) hg (Kd.R_ne HO_5.out BK178.out (by decide)));have n1_:=Ak (blk_grown (g:=gb179) (o:=.cells #[.int .i64 a1_0,.int .i64 a1_1,.int .i64 a1_2,.int .i64 a1_3] 36 (0,0)) (by (with_reducible repeat (first|refine kN ?_ _|refine kD ?_|refine kA ?_ _));exact BK179.out) hg (Kd.R_ne HO_5.out BK179.out (by decide)));have n2_:=Ak (blk_grown (g:=gb181) (o:=.cells #[.int .u32 ((rd_T51 l0_0 x11_1).f0),.int .i64 ((rd_T51 l0_0 x11_1).f1.f0),.int .i64 ((rd_T51 l0_0 x11_1).f1.f1),.int .i64 ((rd_T51 l0_0 x11_1).f1.f2),.int .i64 ((rd_T51 l0_0 x11_1).f1.f3),.int .i64 ((rd_T51 l0_0 x11_1).f2)] 51 (0,0)) (by (with_reducible repeat (first|refine kN ?_ _|refine kD ?_|refine kA ?_ _));exact BK181.out) hg (Kd.R_away HO_5.out (fun _ hk => hk.2)));have n3_:=Ak (hb);have n4_:=Ak (ho);clear BK178;clear BK179;clear BK181;clear HB;clear HO_5;have BK178:=n0_;have BK179:=n1_;have BK181:=n2_;have HB:=n3_;have HO185:=n4_;clear n0_ n1_ n2_ n3_ n4_;clear ho hb hg hat))
        go_roundg k1
        case measure => have:=HK1.out;omega
        case rel => exact ⟨(y183),(wrap64 (x11_1+1)),(by first|rfl|(simp;done)|(simp [*];done)),H',⟨by have:=HK1.out;omega⟩,⟨by (with_reducible repeat (first|apply Kd.R_alloc|apply Kd.R_drewN|apply Kd.R_drew));exact Kd.R_mono HO185.out (fun _ hk => trivial)⟩,⟨by (with_reducible repeat (first|refine kN ?_ _|refine kD ?_|refine kA ?_ _));exact BK178.out⟩,⟨by (with_reducible repeat (first|refine kN ?_ _|refine kD ?_|refine kA ?_ _));exact BK179.out⟩,⟨by repeat (first|(with_reducible first|exact HB.out|apply bA|apply bN|apply bD|refine bS ?_ GE178.out|refine bS ?_ GE179.out|refine bS ?_ GE181.out)|exact HB.out)⟩⟩
       ·rw [if_neg c12] at H
        exact absurd H (by simp)
      ·replace c11:=Bool.eq_false_iff.mpr c11
       subst c11
       have H1 : (gazetteerref22_Meets.l0 k1 x5_1 l0_0 (l0_0.length : Int) (wrap64 (x11_1+1)) a1_0 a1_1 a1_2 a1_3) = some r:=by rw [if_neg (show ¬ (false = true) by decide)] at H;exact H
       clear H
       have H:=H1
       clear H1
       have H':=Ak H
       clear H
       have p180 : 0 ≤ (x11_1 : Int):=of_decide_eq_true (by first|(with_reducible assumption)|assumption)
       have q180 : x11_1 < (l0_0.length : Int):=of_decide_eq_true (by first|(with_reducible assumption)|assumption)
       obtain ⟨ad180,e180,hx180_0,hx180_1,hx180_2,hx180_3,hx180_4,hx180_5⟩:=at_T51 HR0_0.out x11_1 p180 q180
       cases e180
       replace hx180_0:=(HB.out.cell (World.block_lt_of_cell? w _ hx180_0)).trans hx180_0
       replace hx180_1:=(HB.out.cell (World.block_lt_of_cell? w _ hx180_1)).trans hx180_1
       replace hx180_2:=(HB.out.cell (World.block_lt_of_cell? w _ hx180_2)).trans hx180_2
       replace hx180_3:=(HB.out.cell (World.block_lt_of_cell? w _ hx180_3)).trans hx180_3
       replace hx180_4:=(HB.out.cell (World.block_lt_of_cell? w _ hx180_4)).trans hx180_4
       replace hx180_5:=(HB.out.cell (World.block_lt_of_cell? w _ hx180_5)).trans hx180_5
       replace p180:=eq_true p180
       replace q180:=eq_true q180
       go_wp2_with (first|((with_reducible refine gate_dst (N:=7) rfl ?_);refine box_event ?hg (N:=7) ?hd (cs:=#[.int .u32 0,.int .i64 0,.int .i64 0,.int .i64 0,.int .i64 0,.int .i64 0]) (t:=51) ?hr ?_;(case hd => rfl);(case hg => rfl);(case hr => first|(go_simp;done)|(go_simp;rfl));intro gb181 hg w22 hbox hb;have n0_:=Ak (Kd.R_below (Kd.R_elderB (by (with_reducible repeat (first|apply Kd.R_alloc|apply Kd.R_drewN|apply Kd.R_drew));exact HO_5.out) gb181 (Nat.le_of_eq hg.symm)) hb);have n1_:=Ak (kB (g:=gb178) (o:=.cells #[.slice (some ad180) l0_0.length c0_0] 24 (0,0)) (by (with_reducible repeat (first|refine kN ?_ _|refine kD ?_|refine kA ?_ _));exact BK178.out) hb);have n2_:=Ak (kB (g:=gb179) (o:=.cells #[.int .i64 a1_0,.int .i64 a1_1,.int .i64 a1_2,.int .i64 a1_3] 36 (0,0)) (by (with_reducible repeat (first|refine kN ?_ _|refine kD ?_|refine kA ?_ _));exact BK179.out) hb);have n3_:=Ak (below_step (by repeat (first|(with_reducible first|exact HB.out|apply bA|apply bN|apply bD|refine bS ?_ GE178.out|refine bS ?_ GE179.out)|exact HB.out)) hb);have n4_:=Ak (hbox);have n5_:=Ak ((by rw [hg];exact (below_size (by repeat (first|(with_reducible first|exact HB.out|apply bA|apply bN|apply bD|refine bS ?_ GE178.out|refine bS ?_ GE179.out)|exact HB.out))) : w.heap.size ≤ gb181));have n6_:=Ak ((by rw [hg];exact (below_size (by repeat (first|(with_reducible first|exact HB.out|apply bA|apply bN|apply bD|refine bS ?_ GE178.out|refine bS ?_ GE179.out)|exact HB.out))) : w.heap.size ≤ gb181));have n7_:=Ak ((by rw [hg];exact Nat.ne_of_lt (blk_lt (g:=gb178) (o:=.cells #[.slice (some ad180) l0_0.length c0_0] 24 (0,0)) (by (with_reducible repeat (first|refine kN ?_ _|refine kD ?_|refine kA ?_ _));exact BK178.out)) : gb178 ≠ gb181));have n8_:=Ak ((by rw [hg];exact Nat.ne_of_gt (blk_lt (g:=gb178) (o:=.cells #[.slice (some ad180) l0_0.length c0_0] 24 (0,0)) (by (with_reducible repeat (first|refine kN ?_ _|refine kD ?_|refine kA ?_ _));exact BK178.out)) : gb181 ≠ gb178));have n9_:=Ak ((by rw [hg];exact Nat.ne_of_lt (blk_lt (g:=gb179) (o:=.cells #[.int .i64 a1_0,.int .i64 a1_1,.int .i64 a1_2,.int .i64 a1_3] 36 (0,0)) (by (with_reducible repeat (first|refine kN ?_ _|refine kD ?_|refine kA ?_ _));exact BK179.out)) : gb179 ≠ gb181));have n10_:=Ak ((by rw [hg];exact Nat.ne_of_gt (blk_lt (g:=gb179) (o:=.cells #[.int .i64 a1_0,.int .i64 a1_1,.int .i64 a1_2,.int .i64 a1_3] 36 (0,0)) (by (with_reducible repeat (first|refine kN ?_ _|refine kD ?_|refine kA ?_ _));exact BK179.out)) : gb181 ≠ gb179));clear HO_5;clear BK178;clear BK179;clear HB;have HO_5:=n0_;have BK178:=n1_;have BK179:=n2_;have HB:=n3_;have BK181:=n4_;have GW181:=n5_;have GE181:=n6_;have NB178_181:=n7_;have NB181_178:=n8_;have NB179_181:=n9_;have NB181_179:=n10_;clear n0_ n1_ n2_ n3_ n4_ n5_ n6_ n7_ n8_ n9_ n10_;clear hb hbox hg;have hnb23:=NB181_178.out;have hnc23:=NB178_181.out;have hnb24:=NB181_179.out;have hnc24:=NB179_181.out;have hcz25_0 : w22.cell? ⟨gb181,0,none⟩ = some (.int .u32 0):=(kC BK181.out 0).trans rfl;have hcz25_1 : w22.cell? ⟨gb181,1,none⟩ = some (.int .i64 0):=(kC BK181.out 1).trans rfl;have hcz25_2 : w22.cell? ⟨gb181,2,none⟩ = some (.int .i64 0):=(kC BK181.out 2).trans rfl;have hcz25_3 : w22.cell? ⟨gb181,3,none⟩ = some (.int .i64 0):=(kC BK181.out 3).trans rfl;have hcz25_4 : w22.cell? ⟨gb181,4,none⟩ = some (.int .i64 0):=(kC BK181.out 4).trans rfl;have hcz25_5 : w22.cell? ⟨gb181,5,none⟩ = some (.int .i64 0):=(kC BK181.out 5).trans rfl;have hfz25_0:=blk_frozen BK181.out 0;have hfz25_1:=blk_frozen BK181.out 1;have hfz25_2:=blk_frozen BK181.out 2;have hfz25_3:=blk_frozen BK181.out 3;have hfz25_4:=blk_frozen BK181.out 4;have hfz25_5:=blk_frozen BK181.out 5;have hnb26:=NB179_178.out;have hnc26:=NB178_179.out;have hcz27_0 : w22.cell? ⟨gb179,0,none⟩ = some (.int .i64 a1_0):=(kC BK179.out 0).trans rfl;have hcz27_1 : w22.cell? ⟨gb179,1,none⟩ = some (.int .i64 a1_1):=(kC BK179.out 1).trans rfl;have hcz27_2 : w22.cell? ⟨gb179,2,none⟩ = some (.int .i64 a1_2):=(kC BK179.out 2).trans rfl;have hcz27_3 : w22.cell? ⟨gb179,3,none⟩ = some (.int .i64 a1_3):=(kC BK179.out 3).trans rfl;have hfz27_0:=blk_frozen BK179.out 0;have hfz27_1:=blk_frozen BK179.out 1;have hfz27_2:=blk_frozen BK179.out 2;have hfz27_3:=blk_frozen BK179.out 3)|((with_reducible refine gate_callee (f:=52) rfl ?_);refine goesL_ (some 18) rfl rfl Try.func52 (by kernel_rfl) rfl #[.agg #[.int .i64 ((rd_T51 l0_0 x11_1).f1.f0),.int .i64 ((rd_T51 l0_0 x11_1).f1.f1),.int .i64 ((rd_T51 l0_0 x11_1).f1.f2),.int .i64 ((rd_T51 l0_0 x11_1).f1.f3)],.agg #[.int .i64 a1_0,.int .i64 a1_1,.int .i64 a1_2,.int .i64 a1_3]] rfl (by (try simp only [List.map_toArray,List.map_cons,List.map_nil]);first|done|rfl|(simp only [List.length_drop,List.length_take];rfl)) ?_;(with_reducible refine (gazetteerref09_Meets.calls k1 ((rd_T51 l0_0 x11_1).f1.f0) ((rd_T51 l0_0 x11_1).f1.f1) ((rd_T51 l0_0 x11_1).f1.f2) ((rd_T51 l0_0 x11_1).f1.f3) a1_0 a1_1 a1_2 a1_3 false _ A10.out).mono ?_);rintro e w28 ⟨rfl,hb⟩;refine ⟨_,rfl,?_⟩;have n0_:=Ak (Kd.R_below (by (with_reducible repeat (first|apply Kd.R_alloc|apply Kd.R_drewN|apply Kd.R_drew));exact (Kd.R_mono (Kd.R_far (p:=⟨gb181,5,none⟩) (Kd.R_far (p:=⟨gb181,4,none⟩) (Kd.R_far (p:=⟨gb181,3,none⟩) (Kd.R_far (p:=⟨gb181,2,none⟩) (Kd.R_far (p:=⟨gb181,1,none⟩) (Kd.R_far (p:=⟨gb181,0,none⟩) (Kd.R_mono HO_5.out (fun k_ hk => (⟨hk,hk.2⟩ : _∧k_ ≠ gb181))) (fun _ hk => hk.2) (.int .u32 ((rd_T51 l0_0 x11_1).f0))) (fun _ hk => hk.2) (.int .i64 ((rd_T51 l0_0 x11_1).f1.f0))) (fun _ hk => hk.2) (.int .i64 ((rd_T51 l0_0 x11_1).f1.f1))) (fun _ hk => hk.2) (.int .i64 ((rd_T51 l0_0 x11_1).f1.f2))) (fun _ hk => hk.2) (.int .i64 ((rd_T51 l0_0 x11_1).f1.f3))) (fun _ hk => hk.2) (.int .i64 ((rd_T51 l0_0 x11_1).f2))) (fun _ h_ => h_.1))) hb);have n1_:=Ak (kB (g:=gb178) (o:=.cells #[.slice (some ad180) l0_0.length c0_0] 24 (0,0)) (by (with_reducible repeat (first|refine kN ?_ _|refine kD ?_|refine kA ?_ _));refine blk_far ?_ NB178_181.out _;(with_reducible repeat (first|refine kN ?_ _|refine kD ?_|refine kA ?_ _));refine blk_far ?_ NB178_181.out _;(with_reducible repeat (first|refine kN ?_ _|refine kD ?_|refine kA ?_ _));refine blk_far ?_ NB178_181.out _;(with_reducible repeat (first|refine kN ?_ _|refine kD ?_|refine kA ?_ _));refine blk_far ?_ NB178_181.out _;(with_reducible repeat (first|refine kN ?_ _|refine kD ?_|refine kA ?_ _));refine blk_far ?_ NB178_181.out _;(with_reducible repeat (first|refine kN ?_ _|refine kD ?_|refine kA ?_ _));refine blk_far ?_ NB178_181.out _;(with_reducible repeat (first|refine kN ?_ _|refine kD ?_|refine kA ?_ _));exact BK178.out) hb);have n2_:=Ak (kB (g:=gb179) (o:=.cells #[.int .i64 a1_0,.int .i64 a1_1,.int .i64 a1_2,.int .i64 a1_3] 36 (0,0)) (by (with_reducible repeat (first|refine kN ?_ _|refine kD ?_|refine kA ?_ _));refine blk_far ?_ NB179_181.out _;(with_reducible repeat (first|refine kN ?_ _|refine kD ?_|refine kA ?_ _));refine blk_far ?_ NB179_181.out _;(with_reducible repeat (first|refine kN ?_ _|refine kD ?_|refine kA ?_ _));refine blk_far ?_ NB179_181.out _;(with_reducible repeat (first|refine kN ?_ _|refine kD ?_|refine kA ?_ _));refine blk_far ?_ NB179_181.out _;(with_reducible repeat (first|refine kN ?_ _|refine kD ?_|refine kA ?_ _));refine blk_far ?_ NB179_181.out _;(with_reducible repeat (first|refine kN ?_ _|refine kD ?_|refine kA ?_ _));refine blk_far ?_ NB179_181.out _;(with_reducible repeat (first|refine kN ?_ _|refine kD ?_|refine kA ?_ _));exact BK179.out) hb);have n3_:=Ak (kB (g:=gb181) (o:=.cells #[.int .u32 ((rd_T51 l0_0 x11_1).f0),.int .i64 ((rd_T51 l0_0 x11_1).f1.f0),.int .i64 ((rd_T51 l0_0 x11_1).f1.f1),.int .i64 ((rd_T51 l0_0 x11_1).f1.f2),.int .i64 ((rd_T51 l0_0 x11_1).f1.f3),.int .i64 ((rd_T51 l0_0 x11_1).f2)] 51 (0,0)) (by (with_reducible repeat (first|refine kN ?_ _|refine kD ?_|refine kA ?_ _));refine blk_put (cs:=#[.int .u32 ((rd_T51 l0_0 x11_1).f0),.int .i64 ((rd_T51 l0_0 x11_1).f1.f0),.int .i64 ((rd_T51 l0_0 x11_1).f1.f1),.int .i64 ((rd_T51 l0_0 x11_1).f1.f2),.int .i64 ((rd_T51 l0_0 x11_1).f1.f3),.int .i64 0]) ?_ 5 _ rfl;(with_reducible repeat (first|refine kN ?_ _|refine kD ?_|refine kA ?_ _));refine blk_put (cs:=#[.int .u32 ((rd_T51 l0_0 x11_1).f0),.int .i64 ((rd_T51 l0_0 x11_1).f1.f0),.int .i64 ((rd_T51 l0_0 x11_1).f1.f1),.int .i64 ((rd_T51 l0_0 x11_1).f1.f2),.int .i64 0,.int .i64 0]) ?_ 4 _ rfl;(with_reducible repeat (first|refine kN ?_ _|refine kD ?_|refine kA ?_ _));refine blk_put (cs:=#[.int .u32 ((rd_T51 l0_0 x11_1).f0),.int .i64 ((rd_T51 l0_0 x11_1).f1.f0),.int .i64 ((rd_T51 l0_0 x11_1).f1.f1),.int .i64 0,.int .i64 0,.int .i64 0]) ?_ 3 _ rfl;(with_reducible repeat (first|refine kN ?_ _|refine kD ?_|refine kA ?_ _));refine blk_put (cs:=#[.int .u32 ((rd_T51 l0_0 x11_1).f0),.int .i64 ((rd_T51 l0_0 x11_1).f1.f0),.int .i64 0,.int .i64 0,.int .i64 0,.int .i64 0]) ?_ 2 _ rfl;(with_reducible repeat (first|refine kN ?_ _|refine kD ?_|refine kA ?_ _));refine blk_put (cs:=#[.int .u32 ((rd_T51 l0_0 x11_1).f0),.int .i64 0,.int .i64 0,.int .i64 0,.int .i64 0,.int .i64 0]) ?_ 1 _ rfl;(with_reducible repeat (first|refine kN ?_ _|refine kD ?_|refine kA ?_ _));refine blk_put (cs:=#[.int .u32 0,.int .i64 0,.int .i64 0,.int .i64 0,.int .i64 0,.int .i64 0]) ?_ 0 _ rfl;(with_reducible repeat (first|refine kN ?_ _|refine kD ?_|refine kA ?_ _));exact BK181.out) hb);have n4_:=Ak (below_step (by repeat (first|(with_reducible first|exact HB.out|apply bA|apply bN|apply bD|refine bS ?_ GE178.out|refine bS ?_ GE179.out|refine bS ?_ GE181.out)|exact HB.out)) hb);clear HO_5;clear BK178;clear BK179;clear BK181;clear HB;have HO_5:=n0_;have BK178:=n1_;have BK179:=n2_;have BK181:=n3_;have HB:=n4_;clear n0_ n1_ n2_ n3_ n4_;(try clear hb);(try clear hb2);(try clear hk);(try clear hi)))
       go_roundg k1
       case measure => have:=HK1.out;omega
       case rel => exact ⟨(x5_1),(wrap64 (x11_1+1)),(by first|rfl|(simp;done)|(simp [*];done)),H',⟨by have:=HK1.out;omega⟩,⟨by (with_reducible repeat (first|apply Kd.R_alloc|apply Kd.R_drewN|apply Kd.R_drew));exact Kd.R_mono HO_5.out (fun _ hk => trivial)⟩,⟨by (with_reducible repeat (first|refine kN ?_ _|refine kD ?_|refine kA ?_ _));exact BK178.out⟩,⟨by (with_reducible repeat (first|refine kN ?_ _|refine kD ?_|refine kA ?_ _));exact BK179.out⟩,⟨by repeat (first|(with_reducible first|exact HB.out|apply bA|apply bN|apply bD|refine bS ?_ GE178.out|refine bS ?_ GE179.out|refine bS ?_ GE181.out)|exact HB.out)⟩⟩
     ·rw [if_neg c9] at H
      exact absurd H (by simp)
    ·rw [if_neg c8] at H
     exact absurd H (by simp)
   ·rw [if_neg c7] at H
    have c7b0 : decide (x11_1 < (l0_0.length : Int)) = false:=decide_eq_false c7
    clear c7
    obtain rfl:=Option.some.inj H
    go_wp2
    go_ret
    exact ⟨_,by first|rfl|(simp [errW_none,errW_some] <;> rfl)|(simp [*,errW_none,errW_some] <;> rfl),by (with_reducible repeat (first|apply Kd.R_alloc|apply Kd.R_drewN|apply Kd.R_drew));exact HO_5.out,by repeat (first|(with_reducible first|exact HB.out|apply bA|apply bN|apply bD|refine bS ?_ GE178.out|refine bS ?_ GE179.out)|exact HB.out)⟩
end Go.Proofs.Ytknlbfandkmeiaa.M
end
