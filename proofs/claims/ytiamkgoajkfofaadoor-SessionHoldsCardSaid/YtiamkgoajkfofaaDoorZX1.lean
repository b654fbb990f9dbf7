/- What the row of this claim reaches. No condition. -/
import Derived.Test.YtiamkgoajkfofaaDoorZX0
import Derived.Test.YtiamkgoajkfofaaDoorZSPlain
set_option linter.unusedVariables false
set_option linter.unusedSimpArgs false
section
namespace Go.Proofs.YtiamkgoajkfofaaDoor.S
open Go.RowKit Go.Proofs.YtiamkgoajkfofaaDoorW.PrintWords Go.Proofs.YtiamkgoajkfofaaDoorW.PrintLast Go.Proofs.YtiamkgoajkfofaaDoorW.PrintMore
attribute [local go_sem] max2_int min2_int max_two min_two max_three min_three max_four min_four   -- for this text's walks alone
mutual
def session_refuse.j0 : Nat → Int → Bool → Int → Int → Bool → Int → Int → Bool → Int → Int → Int → Int → Int → Int → Int → Int → Int → Int → Int → List (S63) → List Int → List Int → Int → Bool → Int → Int → Int → Int → Int → Int → Option (Int)
  | 0, _, _, _, _, _, _, _, _, _, _, _, _, _, _, _, _, _, _, _, _, _, _, _, _, _, _, _, _, _, _ => none
  | k + 1, x1, x7, x117000, x117001, x117002, x117003, x117004, x117005, x117006, x117007, x117008, x117009, x117010, x117011, x117012, x117013, x117014, x117015, x117016, x117017, x117018, x117019, x118000, x118001, x118002, x118003, x118004, x118005, x118006, x118007 => if x118000 < 1 then (session_refuse.j1 k x1 x7 true x117000 x117001 x117002 x117003 x117004 x117005 x117006 x117007 x117008 x117009 x117010 x117011 x117012 x117013 x117014 x117015 x117016 x117017 x117018 x117019 x118000 x118001 x118002 x118003 x118004 x118005 x118006 x118007) else (session_refuse.j1 k x1 x7 (decide (x118000 > 6)) x117000 x117001 x117002 x117003 x117004 x117005 x117006 x117007 x117008 x117009 x117010 x117011 x117012 x117013 x117014 x117015 x117016 x117017 x117018 x117019 x118000 x118001 x118002 x118003 x118004 x118005 x118006 x118007)
def session_refuse.j1 : Nat → Int → Bool → Bool → Int → Int → Bool → Int → Int → Bool → Int → Int → Int → Int → Int → Int → Int → Int → Int → Int → Int → List (S63) → List Int → List Int → Int → Bool → Int → Int → Int → Int → Int → Int → Option (Int)
  | 0, _, _, _, _, _, _, _, _, _, _, _, _, _, _, _, _, _, _, _, _, _, _, _, _, _, _, _, _, _, _, _ => none
  | k + 1, x1, x7, x16, x117000, x117001, x117002, x117003, x117004, x117005, x117006, x117007, x117008, x117009, x117010, x117011, x117012, x117013, x117014, x117015, x117016, x117017, x117018, x117019, x118000, x118001, x118002, x118003, x118004, x118005, x118006, x118007 => if x16 = true then (some 2) else (if x118000 = 1 then (session_refuse.j2 k x1 x7 (x117000 == 2) x117000 x117001 x117002 x117003 x117004 x117005 x117006 x117007 x117008 x117009 x117010 x117011 x117012 x117013 x117014 x117015 x117016 x117017 x117018 x117019 x118000 x118001 x118002 x118003 x118004 x118005 x118006 x118007) else (session_refuse.j2 k x1 x7 false x117000 x117001 x117002 x117003 x117004 x117005 x117006 x117007 x117008 x117009 x117010 x117011 x117012 x117013 x117014 x117015 x117016 x117017 x117018 x117019 x118000 x118001 x118002 x118003 x118004 x118005 x118006 x118007))
def session_refuse.j2 : Nat → Int → Bool → Bool → Int → Int → Bool → Int → Int → Bool → Int → Int → Int → Int → Int → Int → Int → Int → Int → Int → Int → List (S63) → List Int → List Int → Int → Bool → Int → Int → Int → Int → Int → Int → Option (Int)
  | 0, _, _, _, _, _, _, _, _, _, _, _, _, _, _, _, _, _, _, _, _, _, _, _, _, _, _, _, _, _, _, _ => none
  | k + 1, x1, x7, x25, x117000, x117001, x117002, x117003, x117004, x117005, x117006, x117007, x117008, x117009, x117010, x117011, x117012, x117013, x117014, x117015, x117016, x117017, x117018, x117019, x118000, x118001, x118002, x118003, x118004, x118005, x118006, x118007 => if x25 = true then (some 311) else (if x118000 = 1 then (session_refuse.j3 k x1 x7 false x117000 x117001 x117002 x117003 x117004 x117005 x117006 x117007 x117008 x117009 x117010 x117011 x117012 x117013 x117014 x117015 x117016 x117017 x117018 x117019 x118000 x118001 x118002 x118003 x118004 x118005 x118006 x118007) else (session_refuse.j3 k x1 x7 (x117000 == 1) x117000 x117001 x117002 x117003 x117004 x117005 x117006 x117007 x117008 x117009 x117010 x117011 x117012 x117013 x117014 x117015 x117016 x117017 x117018 x117019 x118000 x118001 x118002 x118003 x118004 x118005 x118006 x118007))
def session_refuse.j3 : Nat → Int → Bool → Bool → Int → Int → Bool → Int → Int → Bool → Int → Int → Int → Int → Int → Int → Int → Int → Int → Int → Int → List (S63) → List Int → List Int → Int → Bool → Int → Int → Int → Int → Int → Int → Option (Int)
  | 0, _, _, _, _, _, _, _, _, _, _, _, _, _, _, _, _, _, _, _, _, _, _, _, _, _, _, _, _, _, _, _ => none
  | k + 1, x1, x7, x34, x117000, x117001, x117002, x117003, x117004, x117005, x117006, x117007, x117008, x117009, x117010, x117011, x117012, x117013, x117014, x117015, x117016, x117017, x117018, x117019, x118000, x118001, x118002, x118003, x118004, x118005, x118006, x118007 => if x34 = true then (some 312) else (if x7 = true then (session_refuse.j4 k x1 x7 x117002 x118000 x118001 x118002 x118003 x118004 x118005 x118006 x118007) else (session_refuse.j4 k x1 x7 false x118000 x118001 x118002 x118003 x118004 x118005 x118006 x118007))
def session_refuse.j4 : Nat → Int → Bool → Bool → Int → Bool → Int → Int → Int → Int → Int → Int → Option (Int)
  | 0, _, _, _, _, _, _, _, _, _, _, _ => none
  | k + 1, x1, x7, x43, x118000, x118001, x118002, x118003, x118004, x118005, x118006, x118007 => if x43 = true then (some 315) else (if x7 = true then (session_refuse.j5 k x1 (x118002 == 0) x118000 x118001 x118002 x118003 x118004 x118005 x118006 x118007) else (session_refuse.j5 k x1 false x118000 x118001 x118002 x118003 x118004 x118005 x118006 x118007))
def session_refuse.j5 : Nat → Int → Bool → Int → Bool → Int → Int → Int → Int → Int → Int → Option (Int)
  | 0, _, _, _, _, _, _, _, _, _, _ => none
  | k + 1, x1, x49, x118000, x118001, x118002, x118003, x118004, x118005, x118006, x118007 => if x49 = true then (some 2) else (if x118000 = 2 then ((key_Check.f x1 x118003 x118004 x118005 x118006).bind fun t118 => (session_refuse.j6 k (t118 != 0) x118000 x118001 x118002 x118003 x118004 x118005 x118006 x118007)) else (session_refuse.j6 k false x118000 x118001 x118002 x118003 x118004 x118005 x118006 x118007))
def session_refuse.j6 : Nat → Bool → Int → Bool → Int → Int → Int → Int → Int → Int → Option (Int)
  | 0, _, _, _, _, _, _, _, _, _ => none
  | k + 1, x56, x118000, x118001, x118002, x118003, x118004, x118005, x118006, x118007 => if x56 = true then (some 314) else (if x118000 = 4 then ((key_Check.f 1 x118003 x118004 x118005 x118006).bind fun t119 => (if t119 = 0 then (some 0) else (some 314))) else (some 0))
end
def session_refuse.f (k : Nat) (a0_0 : Int) (a0_1 : Int) (a0_2 : Bool) (a0_3 : Int) (a0_4 : Int) (a0_5 : Bool) (a0_6 : Int) (a0_7 : Int) (a0_8 : Int) (a0_9 : Int) (a0_10 : Int) (a0_11 : Int) (a0_12 : Int) (a0_13 : Int) (a0_14 : Int) (a0_15 : Int) (a0_16 : Int) (l0_17 : List (S63)) (l0_18 : List Int) (l0_19 : List Int) (a1 : Int) (a2_0 : Int) (a2_1 : Bool) (a2_2 : Int) (a2_3 : Int) (a2_4 : Int) (a2_5 : Int) (a2_6 : Int) (a2_7 : Int) : Option (Int) := if a2_0 = 2 then (session_refuse.j0 k a1 true a0_0 a0_1 a0_2 a0_3 a0_4 a0_5 a0_6 a0_7 a0_8 a0_9 a0_10 a0_11 a0_12 a0_13 a0_14 a0_15 a0_16 l0_17 l0_18 l0_19 a2_0 a2_1 a2_2 a2_3 a2_4 a2_5 a2_6 a2_7) else (session_refuse.j0 k a1 (a2_0 == 3) a0_0 a0_1 a0_2 a0_3 a0_4 a0_5 a0_6 a0_7 a0_8 a0_9 a0_10 a0_11 a0_12 a0_13 a0_14 a0_15 a0_16 l0_17 l0_18 l0_19 a2_0 a2_1 a2_2 a2_3 a2_4 a2_5 a2_6 a2_7)
set_option maxHeartbeats 8000000 in
set_option maxRecDepth 100000 in
theorem session_refuse.calls (k : Nat) (a0_0 : Int) (a0_1 : Int) (a0_2 : Bool) (a0_3 : Int) (a0_4 : Int) (a0_5 : Bool) (a0_6 : Int) (a0_7 : Int) (a0_8 : Int) (a0_9 : Int) (a0_10 : Int) (a0_11 : Int) (a0_12 : Int) (a0_13 : Int) (a0_14 : Int) (a0_15 : Int) (a0_16 : Int) (A0_17 : Option Addr) (c0_17 : Nat) (l0_17 : List (S63)) (A0_18 : Option Addr) (c0_18 : Nat) (l0_18 : List Int) (A0_19 : Option Addr) (c0_19 : Nat) (l0_19 : List Int) (a1 : Int) (a2_0 : Int) (a2_1 : Bool) (a2_2 : Int) (a2_3 : Int) (a2_4 : Int) (a2_5 : Int) (a2_6 : Int) (a2_7 : Int) (r : Int) (w : World) (hr0_17 : Kd.C k63 w A0_17 l0_17.length l0_17) (hc0_17 : l0_17.length ≤ c0_17) (hr0_18 : Kd.C (Kd.int .u32) w A0_18 l0_18.length l0_18) (hc0_18 : l0_18.length ≤ c0_18) (hr0_19 : Kd.C (Kd.int .u32) w A0_19 l0_19.length l0_19) (hc0_19 : l0_19.length ≤ c0_19) (h : session_refuse.f k a0_0 a0_1 a0_2 a0_3 a0_4 a0_5 a0_6 a0_7 a0_8 a0_9 a0_10 a0_11 a0_12 a0_13 a0_14 a0_15 a0_16 l0_17 l0_18 l0_19 a1 a2_0 a2_1 a2_2 a2_3 a2_4 a2_5 a2_6 a2_7 = some r) :
    Calls Tryd.prog 30 #[.agg #[.int .i64 a0_0, .int .u64 a0_1, .bool a0_2, .int .u64 a0_3, .int .i64 a0_4, .bool a0_5, .int .u32 a0_6, .int .i64 a0_7, .int .i64 a0_8, .int .i64 a0_9, .int .i64 a0_10, .int .i64 a0_11, .int .i64 a0_12, .int .i64 a0_13, .int .i64 a0_14, .int .i64 a0_15, .int .i64 a0_16, .slice A0_17 l0_17.length c0_17, .slice A0_18 l0_18.length c0_18, .slice A0_19 l0_19.length c0_19], .int .i64 a1, .agg #[.int .i64 a2_0, .bool a2_1, .int .u32 a2_2, .int .i64 a2_3, .int .i64 a2_4, .int .i64 a2_5, .int .i64 a2_6, .int .i64 a2_7]] w fun e w' => e = .returned (.int .i64 r) ∧ Below w.heap.size w w' := by
  have hu33 := Tryd.underlying33
  have hu27 := Tryd.underlying27
  have hu25 := Tryd.underlying25
  have HR0_17 := Aside0.mk hr0_17
  have HC0_17 := Aside0.mk hc0_17
  clear hr0_17 hc0_17
  have HR0_18 := Aside0.mk hr0_18
  have HC0_18 := Aside0.mk hc0_18
  clear hr0_18 hc0_18
  have HR0_19 := Aside0.mk hr0_19
  have HC0_19 := Aside0.mk hc0_19
  clear hr0_19 hc0_19
  have HB := Aside0.mk (Below.refl w.heap.size w)
  have H : (if a2_0 = 2 then (session_refuse.j0 k a1 true a0_0 a0_1 a0_2 a0_3 a0_4 a0_5 a0_6 a0_7 a0_8 a0_9 a0_10 a0_11 a0_12 a0_13 a0_14 a0_15 a0_16 l0_17 l0_18 l0_19 a2_0 a2_1 a2_2 a2_3 a2_4 a2_5 a2_6 a2_7) else (session_refuse.j0 k a1 (a2_0 == 3) a0_0 a0_1 a0_2 a0_3 a0_4 a0_5 a0_6 a0_7 a0_8 a0_9 a0_10 a0_11 a0_12 a0_13 a0_14 a0_15 a0_16 l0_17 l0_18 l0_19 a2_0 a2_1 a2_2 a2_3 a2_4 a2_5 a2_6 a2_7)) = some r := h
  clear h
  have HC4 := Aside0.mk H
  clear H
  go_enter Tryd.func30, Tryd.ntmps30
  go_upto_region 1 with (first | ((with_reducible refine gate_dst (N := 3) rfl ?_); refine box_event ?hg (N := 3) ?hd (cs := #[.int .i64 a0_0, .int .u64 a0_1, .bool a0_2, .int .u64 a0_3, .int .i64 a0_4, .bool a0_5, .int .u32 a0_6, .int .i64 a0_7, .int .i64 a0_8, .int .i64 a0_9, .int .i64 a0_10, .int .i64 a0_11, .int .i64 a0_12, .int .i64 a0_13, .int .i64 a0_14, .int .i64 a0_15, .int .i64 a0_16, .slice A0_17 l0_17.length c0_17, .slice A0_18 l0_18.length c0_18, .slice A0_19 l0_19.length c0_19]) (t := 33) ?hr ?_; (case hd => rfl); (case hg => rfl); (case hr => first | (go_simp; done) | (go_simp; rfl)); intro gb116 hg w5 hbox hb; have n0_ := Aside0.mk (below_step (by repeat (first | (with_reducible first | exact HB.out | apply below_alloc | apply pw_below_drewN | apply below_drew1) | exact HB.out)) hb); have n1_ := Aside0.mk (hbox); have n2_ := Aside0.mk ((by rw [hg]; exact (below_size (by repeat (first | (with_reducible first | exact HB.out | apply below_alloc | apply pw_below_drewN | apply below_drew1) | exact HB.out))) : w.heap.size ≤ gb116)); have n3_ := Aside0.mk ((by rw [hg]; exact (below_size (by repeat (first | (with_reducible first | exact HB.out | apply below_alloc | apply pw_below_drewN | apply below_drew1) | exact HB.out))) : w.heap.size ≤ gb116)); clear HB; have HB := n0_; have BK116 := n1_; have GW116 := n2_; have GE116 := n3_; clear n0_ n1_ n2_ n3_; clear hb hbox hg) | ((with_reducible refine gate_dst (N := 5) rfl ?_); refine box_event ?hg (N := 5) ?hd (cs := #[.int .i64 a2_0, .bool a2_1, .int .u32 a2_2, .int .i64 a2_3, .int .i64 a2_4, .int .i64 a2_5, .int .i64 a2_6, .int .i64 a2_7]) (t := 27) ?hr ?_; (case hd => rfl); (case hg => rfl); (case hr => first | (go_simp; done) | (go_simp; rfl)); intro gb117 hg w6 hbox hb; have n0_ := Aside0.mk (blk_below (g := gb116) (o := .cells #[.int .i64 a0_0, .int .u64 a0_1, .bool a0_2, .int .u64 a0_3, .int .i64 a0_4, .bool a0_5, .int .u32 a0_6, .int .i64 a0_7, .int .i64 a0_8, .int .i64 a0_9, .int .i64 a0_10, .int .i64 a0_11, .int .i64 a0_12, .int .i64 a0_13, .int .i64 a0_14, .int .i64 a0_15, .int .i64 a0_16, .slice A0_17 l0_17.length c0_17, .slice A0_18 l0_18.length c0_18, .slice A0_19 l0_19.length c0_19] 33 (0, 0)) (by (with_reducible repeat (first | refine blk_drewN ?_ _ | refine blk_drew ?_ | refine blk_alloc ?_ _)); exact BK116.out) hb); have n1_ := Aside0.mk (below_step (by repeat (first | (with_reducible first | exact HB.out | apply below_alloc | apply pw_below_drewN | apply below_drew1 | refine below_set ?_ GE116.out) | exact HB.out)) hb); have n2_ := Aside0.mk (hbox); have n3_ := Aside0.mk ((by rw [hg]; exact (below_size (by repeat (first | (with_reducible first | exact HB.out | apply below_alloc | apply pw_below_drewN | apply below_drew1 | refine below_set ?_ GE116.out) | exact HB.out))) : w.heap.size ≤ gb117)); have n4_ := Aside0.mk ((by rw [hg]; exact (below_size (by repeat (first | (with_reducible first | exact HB.out | apply below_alloc | apply pw_below_drewN | apply below_drew1 | refine below_set ?_ GE116.out) | exact HB.out))) : w.heap.size ≤ gb117)); have n5_ := Aside0.mk ((by rw [hg]; exact Nat.ne_of_lt (blk_lt (g := gb116) (o := .cells #[.int .i64 a0_0, .int .u64 a0_1, .bool a0_2, .int .u64 a0_3, .int .i64 a0_4, .bool a0_5, .int .u32 a0_6, .int .i64 a0_7, .int .i64 a0_8, .int .i64 a0_9, .int .i64 a0_10, .int .i64 a0_11, .int .i64 a0_12, .int .i64 a0_13, .int .i64 a0_14, .int .i64 a0_15, .int .i64 a0_16, .slice A0_17 l0_17.length c0_17, .slice A0_18 l0_18.length c0_18, .slice A0_19 l0_19.length c0_19] 33 (0, 0)) (by (with_reducible repeat (first | refine blk_drewN ?_ _ | refine blk_drew ?_ | refine blk_alloc ?_ _)); exact BK116.out)) : gb116 ≠ gb117)); have n6_ := Aside0.mk ((by rw [hg]; exact Nat.ne_of_gt (blk_lt (g := gb116) (o := .cells #[.int .i64 a0_0, .int .u64 a0_1, .bool a0_2, .int .u64 a0_3, .int .i64 a0_4, .bool a0_5, .int .u32 a0_6, .int .i64 a0_7, .int .i64 a0_8, .int .i64 a0_9, .int .i64 a0_10, .int .i64 a0_11, .int .i64 a0_12, .int .i64 a0_13, .int .i64 a0_14, .int .i64 a0_15, .int .i64 a0_16, .slice A0_17 l0_17.length c0_17, .slice A0_18 l0_18.length c0_18, .slice A0_19 l0_19.length c0_19] 33 (0, 0)) (by (with_reducible repeat (first | refine blk_drewN ?_ _ | refine blk_drew ?_ | refine blk_alloc ?_ _)); exact BK116.out)) : gb117 ≠ gb116)); clear BK116; clear HB; have BK116 := n0_; have HB := n1_; have BK117 := n2_; have GW117 := n3_; have GE117 := n4_; have NB116_117 := n5_; have NB117_116 := n6_; clear n0_ n1_ n2_ n3_ n4_ n5_ n6_; clear hb hbox hg))
  (try simp only [Act.put, List.setIfInBounds_toArray, List.set_cons_zero, List.set_cons_succ])
  go_cut [7] (fun v7 wc => ∃ (kq : Nat) (x7_3 : Bool), v7 = .bool x7_3 ∧ Aside0 (session_refuse.j0 kq a1 x7_3 a0_0 a0_1 a0_2 a0_3 a0_4 a0_5 a0_6 a0_7 a0_8 a0_9 a0_10 a0_11 a0_12 a0_13 a0_14 a0_15 a0_16 l0_17 l0_18 l0_19 a2_0 a2_1 a2_2 a2_3 a2_4 a2_5 a2_6 a2_7 = some r) ∧ Aside0 (kq ≤ k) ∧ Aside0 (wc.heap[gb116]? = some (.cells #[.int .i64 a0_0, .int .u64 a0_1, .bool a0_2, .int .u64 a0_3, .int .i64 a0_4, .bool a0_5, .int .u32 a0_6, .int .i64 a0_7, .int .i64 a0_8, .int .i64 a0_9, .int .i64 a0_10, .int .i64 a0_11, .int .i64 a0_12, .int .i64 a0_13, .int .i64 a0_14, .int .i64 a0_15, .int .i64 a0_16, (.slice A0_17 l0_17.length c0_17), (.slice A0_18 l0_18.length c0_18), (.slice A0_19 l0_19.length c0_19)] 33 (0, 0))) ∧ Aside0 (wc.heap[gb117]? = some (.cells #[.int .i64 a2_0, .bool a2_1, .int .u32 a2_2, .int .i64 a2_3, .int .i64 a2_4, .int .i64 a2_5, .int .i64 a2_6, .int .i64 a2_7] 27 (0, 0))) ∧ Aside0 (Below w.heap.size w wc))
  case first =>
    have H := HC4.out
    clear HC4
    by_cases c7 : a2_0 = 2
    · rw [if_pos c7] at H
      have c7b0 : (a2_0 == 2) = true := beq_iff_eq.mpr c7
      have c7b1 : (a2_0 != 2) = false := bne_eq_false_iff_eq.mpr c7
      clear c7
      (first | rw [c7b0] | (simp only [i64_w, i32_w]; rw [c7b0]) | skip)
      have H' := Aside0.mk H
      clear H
      have hnb8 := NB117_116.out
      have hnc8 := NB116_117.out
      have hcz9_0 : w6.cell? ⟨gb117, 0, none⟩ = some (.int .i64 a2_0) := (blk_cell BK117.out 0).trans rfl
      have hcz9_1 : w6.cell? ⟨gb117, 1, none⟩ = some (.bool a2_1) := (blk_cell BK117.out 1).trans rfl
      have hcz9_2 : w6.cell? ⟨gb117, 2, none⟩ = some (.int .u32 a2_2) := (blk_cell BK117.out 2).trans rfl
      have hcz9_3 : w6.cell? ⟨gb117, 3, none⟩ = some (.int .i64 a2_3) := (blk_cell BK117.out 3).trans rfl
      have hcz9_4 : w6.cell? ⟨gb117, 4, none⟩ = some (.int .i64 a2_4) := (blk_cell BK117.out 4).trans rfl
      have hcz9_5 : w6.cell? ⟨gb117, 5, none⟩ = some (.int .i64 a2_5) := (blk_cell BK117.out 5).trans rfl
      have hcz9_6 : w6.cell? ⟨gb117, 6, none⟩ = some (.int .i64 a2_6) := (blk_cell BK117.out 6).trans rfl
      have hcz9_7 : w6.cell? ⟨gb117, 7, none⟩ = some (.int .i64 a2_7) := (blk_cell BK117.out 7).trans rfl
      have hfz9_0 := blk_frozen BK117.out 0
      have hfz9_1 := blk_frozen BK117.out 1
      have hfz9_2 := blk_frozen BK117.out 2
      have hfz9_3 := blk_frozen BK117.out 3
      have hfz9_4 := blk_frozen BK117.out 4
      have hfz9_5 := blk_frozen BK117.out 5
      have hfz9_6 := blk_frozen BK117.out 6
      have hfz9_7 := blk_frozen BK117.out 7
      go_wp2
      go_meet
      case rel => exact ⟨_, (true), (by first | rfl | (simp; done) | (simp [*]; done)), H', ⟨by first | omega | exact Nat.le_refl _⟩, ⟨by (with_reducible repeat (first | refine blk_drewN ?_ _ | refine blk_drew ?_ | refine blk_alloc ?_ _)); exact BK116.out⟩, ⟨by (with_reducible repeat (first | refine blk_drewN ?_ _ | refine blk_drew ?_ | refine blk_alloc ?_ _)); exact BK117.out⟩, ⟨by repeat (first | (with_reducible first | exact HB.out | apply below_alloc | apply pw_below_drewN | apply below_drew1 | refine below_set ?_ GE116.out | refine below_set ?_ GE117.out) | exact HB.out)⟩⟩
    · rw [if_neg c7] at H
      have c7b0 : (a2_0 == 2) = false := beq_eq_false_iff_ne.mpr c7
      have c7b1 : (a2_0 != 2) = true := bne_iff_ne.mpr c7
      (first | rw [c7b0] | (simp only [i64_w, i32_w]; rw [c7b0]) | skip)
      have H' := Aside0.mk H
      clear H
      have hnb10 := NB117_116.out
      have hnc10 := NB116_117.out
      have hcz11_0 : w6.cell? ⟨gb117, 0, none⟩ = some (.int .i64 a2_0) := (blk_cell BK117.out 0).trans rfl
      have hcz11_1 : w6.cell? ⟨gb117, 1, none⟩ = some (.bool a2_1) := (blk_cell BK117.out 1).trans rfl
      have hcz11_2 : w6.cell? ⟨gb117, 2, none⟩ = some (.int .u32 a2_2) := (blk_cell BK117.out 2).trans rfl
      have hcz11_3 : w6.cell? ⟨gb117, 3, none⟩ = some (.int .i64 a2_3) := (blk_cell BK117.out 3).trans rfl
      have hcz11_4 : w6.cell? ⟨gb117, 4, none⟩ = some (.int .i64 a2_4) := (blk_cell BK117.out 4).trans rfl
      have hcz11_5 : w6.cell? ⟨gb117, 5, none⟩ = some (.int .i64 a2_5) := (blk_cell BK117.out 5).trans rfl
      have hcz11_6 : w6.cell? ⟨gb117, 6, none⟩ = some (.int .i64 a2_6) := (blk_cell BK117.out 6).trans rfl
      have hcz11_7 : w6.cell? ⟨gb117, 7, none⟩ = some (.int .i64 a2_7) := (blk_cell BK117.out 7).trans rfl
      have hfz11_0 := blk_frozen BK117.out 0
      have hfz11_1 := blk_frozen BK117.out 1
      have hfz11_2 := blk_frozen BK117.out 2
      have hfz11_3 := blk_frozen BK117.out 3
      have hfz11_4 := blk_frozen BK117.out 4
      have hfz11_5 := blk_frozen BK117.out 5
      have hfz11_6 := blk_frozen BK117.out 6
      have hfz11_7 := blk_frozen BK117.out 7
      go_wp2
      go_meet
      case rel => exact ⟨_, ((a2_0 == 3)), (by first | rfl | (simp; done) | (simp [*]; done)), H', ⟨by first | omega | exact Nat.le_refl _⟩, ⟨by (with_reducible repeat (first | refine blk_drewN ?_ _ | refine blk_drew ?_ | refine blk_alloc ?_ _)); exact BK116.out⟩, ⟨by (with_reducible repeat (first | refine blk_drewN ?_ _ | refine blk_drew ?_ | refine blk_alloc ?_ _)); exact BK117.out⟩, ⟨by repeat (first | (with_reducible first | exact HB.out | apply below_alloc | apply pw_below_drewN | apply below_drew1 | refine below_set ?_ GE116.out | refine below_set ?_ GE117.out) | exact HB.out)⟩⟩
  case rest =>
    clear HC4
    try clear c1
    try clear p2
    try clear c3
    try clear c7
    try clear c7b0
    try clear c7b1
    try clear c8
    try clear c10
    try clear hcz11_0
    try clear hcz11_1
    try clear hcz11_2
    try clear hcz11_3
    try clear hcz11_4
    try clear hcz11_5
    try clear hcz11_6
    try clear hcz11_7
    try clear hcz9_0
    try clear hcz9_1
    try clear hcz9_2
    try clear hcz9_3
    try clear hcz9_4
    try clear hcz9_5
    try clear hcz9_6
    try clear hcz9_7
    try clear hfz11_0
    try clear hfz11_1
    try clear hfz11_2
    try clear hfz11_3
    try clear hfz11_4
    try clear hfz11_5
    try clear hfz11_6
    try clear hfz11_7
    try clear hfz9_0
    try clear hfz9_1
    try clear hfz9_2
    try clear hfz9_3
    try clear hfz9_4
    try clear hfz9_5
    try clear hfz9_6
    try clear hfz9_7
    obtain ⟨kq, x7_3, rfl, HA, HJ3, BK116, BK117, HB⟩ := hcut
    cases kq with
    | zero => exact absurd HA.out (by simp [session_refuse.j0])
    | succ kj3 =>
      have H := HA.out
      clear HA
      simp only [session_refuse.j0] at H
      have HC12 := Aside0.mk H
      clear H
      go_upto_region 2 with (fail)
      go_cut [16] (fun v16 wc => ∃ (kq : Nat) (x16_11 : Bool), v16 = .bool x16_11 ∧ Aside0 (session_refuse.j1 kq a1 x7_3 x16_11 a0_0 a0_1 a0_2 a0_3 a0_4 a0_5 a0_6 a0_7 a0_8 a0_9 a0_10 a0_11 a0_12 a0_13 a0_14 a0_15 a0_16 l0_17 l0_18 l0_19 a2_0 a2_1 a2_2 a2_3 a2_4 a2_5 a2_6 a2_7 = some r) ∧ Aside0 (kq ≤ kj3) ∧ Aside0 (wc.heap[gb116]? = some (.cells #[.int .i64 a0_0, .int .u64 a0_1, .bool a0_2, .int .u64 a0_3, .int .i64 a0_4, .bool a0_5, .int .u32 a0_6, .int .i64 a0_7, .int .i64 a0_8, .int .i64 a0_9, .int .i64 a0_10, .int .i64 a0_11, .int .i64 a0_12, .int .i64 a0_13, .int .i64 a0_14, .int .i64 a0_15, .int .i64 a0_16, (.slice A0_17 l0_17.length c0_17), (.slice A0_18 l0_18.length c0_18), (.slice A0_19 l0_19.length c0_19)] 33 (0, 0))) ∧ Aside0 (wc.heap[gb117]? = some (.cells #[.int .i64 a2_0, .bool a2_1, .int .u32 a2_2, .int .i64 a2_3, .int .i64 a2_4, .int .i64 a2_5, .int .i64 a2_6, .int .i64 a2_7] 27 (0, 0))) ∧ Aside0 (Below w.heap.size w wc))
      case first =>
        have H := HC12.out
        clear HC12
        by_cases c13 : a2_0 < 1
        · rw [if_pos c13] at H
          have c13b0 : decide (a2_0 < 1) = true := decide_eq_true c13
          clear c13
          (first | rw [c13b0] | (simp only [i64_w, i32_w]; rw [c13b0]) | skip)
          have H' := Aside0.mk H
          clear H
          have hnb14 := NB117_116.out
          have hnc14 := NB116_117.out
          have hcz15_0 : wc.cell? ⟨gb117, 0, none⟩ = some (.int .i64 a2_0) := (blk_cell BK117.out 0).trans rfl
          have hcz15_1 : wc.cell? ⟨gb117, 1, none⟩ = some (.bool a2_1) := (blk_cell BK117.out 1).trans rfl
          have hcz15_2 : wc.cell? ⟨gb117, 2, none⟩ = some (.int .u32 a2_2) := (blk_cell BK117.out 2).trans rfl
          have hcz15_3 : wc.cell? ⟨gb117, 3, none⟩ = some (.int .i64 a2_3) := (blk_cell BK117.out 3).trans rfl
          have hcz15_4 : wc.cell? ⟨gb117, 4, none⟩ = some (.int .i64 a2_4) := (blk_cell BK117.out 4).trans rfl
          have hcz15_5 : wc.cell? ⟨gb117, 5, none⟩ = some (.int .i64 a2_5) := (blk_cell BK117.out 5).trans rfl
          have hcz15_6 : wc.cell? ⟨gb117, 6, none⟩ = some (.int .i64 a2_6) := (blk_cell BK117.out 6).trans rfl
          have hcz15_7 : wc.cell? ⟨gb117, 7, none⟩ = some (.int .i64 a2_7) := (blk_cell BK117.out 7).trans rfl
          have hfz15_0 := blk_frozen BK117.out 0
          have hfz15_1 := blk_frozen BK117.out 1
          have hfz15_2 := blk_frozen BK117.out 2
          have hfz15_3 := blk_frozen BK117.out 3
          have hfz15_4 := blk_frozen BK117.out 4
          have hfz15_5 := blk_frozen BK117.out 5
          have hfz15_6 := blk_frozen BK117.out 6
          have hfz15_7 := blk_frozen BK117.out 7
          go_wp2
          go_meet
          case rel => exact ⟨_, (true), (by first | rfl | (simp; done) | (simp [*]; done)), H', ⟨by have := HJ3.out; first | omega | exact Nat.le_refl _⟩, ⟨by (with_reducible repeat (first | refine blk_drewN ?_ _ | refine blk_drew ?_ | refine blk_alloc ?_ _)); exact BK116.out⟩, ⟨by (with_reducible repeat (first | refine blk_drewN ?_ _ | refine blk_drew ?_ | refine blk_alloc ?_ _)); exact BK117.out⟩, ⟨by repeat (first | (with_reducible first | exact HB.out | apply below_alloc | apply pw_below_drewN | apply below_drew1 | refine below_set ?_ GE116.out | refine below_set ?_ GE117.out) | exact HB.out)⟩⟩
        · rw [if_neg c13] at H
          have c13b0 : decide (a2_0 < 1) = false := decide_eq_false c13
          clear c13
          (first | rw [c13b0] | (simp only [i64_w, i32_w]; rw [c13b0]) | skip)
          have H' := Aside0.mk H
          clear H
          have hnb16 := NB117_116.out
          have hnc16 := NB116_117.out
          have hcz17_0 : wc.cell? ⟨gb117, 0, none⟩ = some (.int .i64 a2_0) := (blk_cell BK117.out 0).trans rfl
          have hcz17_1 : wc.cell? ⟨gb117, 1, none⟩ = some (.bool a2_1) := (blk_cell BK117.out 1).trans rfl
          have hcz17_2 : wc.cell? ⟨gb117, 2, none⟩ = some (.int .u32 a2_2) := (blk_cell BK117.out 2).trans rfl
          have hcz17_3 : wc.cell? ⟨gb117, 3, none⟩ = some (.int .i64 a2_3) := (blk_cell BK117.out 3).trans rfl
          have hcz17_4 : wc.cell? ⟨gb117, 4, none⟩ = some (.int .i64 a2_4) := (blk_cell BK117.out 4).trans rfl
          have hcz17_5 : wc.cell? ⟨gb117, 5, none⟩ = some (.int .i64 a2_5) := (blk_cell BK117.out 5).trans rfl
          have hcz17_6 : wc.cell? ⟨gb117, 6, none⟩ = some (.int .i64 a2_6) := (blk_cell BK117.out 6).trans rfl
          have hcz17_7 : wc.cell? ⟨gb117, 7, none⟩ = some (.int .i64 a2_7) := (blk_cell BK117.out 7).trans rfl
          have hfz17_0 := blk_frozen BK117.out 0
          have hfz17_1 := blk_frozen BK117.out 1
          have hfz17_2 := blk_frozen BK117.out 2
          have hfz17_3 := blk_frozen BK117.out 3
          have hfz17_4 := blk_frozen BK117.out 4
          have hfz17_5 := blk_frozen BK117.out 5
          have hfz17_6 := blk_frozen BK117.out 6
          have hfz17_7 := blk_frozen BK117.out 7
          go_wp2
          go_meet
          case rel => exact ⟨_, (decide (a2_0 > 6)), (by first | rfl | (simp; done) | (simp [*]; done)), H', ⟨by have := HJ3.out; first | omega | exact Nat.le_refl _⟩, ⟨by (with_reducible repeat (first | refine blk_drewN ?_ _ | refine blk_drew ?_ | refine blk_alloc ?_ _)); exact BK116.out⟩, ⟨by (with_reducible repeat (first | refine blk_drewN ?_ _ | refine blk_drew ?_ | refine blk_alloc ?_ _)); exact BK117.out⟩, ⟨by repeat (first | (with_reducible first | exact HB.out | apply below_alloc | apply pw_below_drewN | apply below_drew1 | refine below_set ?_ GE116.out | refine below_set ?_ GE117.out) | exact HB.out)⟩⟩
      case rest =>
        clear HC12
        try clear c1
        try clear p2
        try clear c3
        try clear c7
        try clear c7b0
        try clear c7b1
        try clear c8
        try clear c10
        try clear c13
        try clear c13b0
        try clear c14
        try clear c16
        try clear hcz11_0
        try clear hcz11_1
        try clear hcz11_2
        try clear hcz11_3
        try clear hcz11_4
        try clear hcz11_5
        try clear hcz11_6
        try clear hcz11_7
        try clear hcz15_0
        try clear hcz15_1
        try clear hcz15_2
        try clear hcz15_3
        try clear hcz15_4
        try clear hcz15_5
        try clear hcz15_6
        try clear hcz15_7
        try clear hcz17_0
        try clear hcz17_1
        try clear hcz17_2
        try clear hcz17_3
        try clear hcz17_4
        try clear hcz17_5
        try clear hcz17_6
        try clear hcz17_7
        try clear hcz9_0
        try clear hcz9_1
        try clear hcz9_2
        try clear hcz9_3
        try clear hcz9_4
        try clear hcz9_5
        try clear hcz9_6
        try clear hcz9_7
        try clear hfz11_0
        try clear hfz11_1
        try clear hfz11_2
        try clear hfz11_3
        try clear hfz11_4
        try clear hfz11_5
        try clear hfz11_6
        try clear hfz11_7
        try clear hfz15_0
        try clear hfz15_1
        try clear hfz15_2
        try clear hfz15_3
        try clear hfz15_4
        try clear hfz15_5
        try clear hfz15_6
        try clear hfz15_7
        try clear hfz17_0
        try clear hfz17_1
        try clear hfz17_2
        try clear hfz17_3
        try clear hfz17_4
        try clear hfz17_5
        try clear hfz17_6
        try clear hfz17_7
        try clear hfz9_0
        try clear hfz9_1
        try clear hfz9_2
        try clear hfz9_3
        try clear hfz9_4
        try clear hfz9_5
        try clear hfz9_6
        try clear hfz9_7
        try clear p2
        obtain ⟨kq, x16_11, rfl, HA, HJ11, BK116, BK117, HB⟩ := hcut
        cases kq with
        | zero => exact absurd HA.out (by simp [session_refuse.j1])
        | succ kj11 =>
          have H := HA.out
          clear HA
          simp only [session_refuse.j1] at H
          by_cases c18 : x16_11 = true
          · subst c18
            have H1 : (some 2) = some r := by rw [if_pos rfl] at H; exact H
            clear H
            have H := H1
            clear H1
            obtain rfl := Option.some.inj H
            go_wp2
            go_ret
            exact ⟨by first | rfl | (simp [errW_none, errW_some] <;> rfl) | (simp [*, errW_none, errW_some] <;> rfl), by repeat (first | (with_reducible first | exact HB.out | apply below_alloc | apply pw_below_drewN | apply below_drew1 | refine below_set ?_ GE116.out | refine below_set ?_ GE117.out) | exact HB.out)⟩
          · replace c18 := Bool.eq_false_iff.mpr c18
            subst c18
            have H1 : (if a2_0 = 1 then (session_refuse.j2 kj11 a1 x7_3 (a0_0 == 2) a0_0 a0_1 a0_2 a0_3 a0_4 a0_5 a0_6 a0_7 a0_8 a0_9 a0_10 a0_11 a0_12 a0_13 a0_14 a0_15 a0_16 l0_17 l0_18 l0_19 a2_0 a2_1 a2_2 a2_3 a2_4 a2_5 a2_6 a2_7) else (session_refuse.j2 kj11 a1 x7_3 false a0_0 a0_1 a0_2 a0_3 a0_4 a0_5 a0_6 a0_7 a0_8 a0_9 a0_10 a0_11 a0_12 a0_13 a0_14 a0_15 a0_16 l0_17 l0_18 l0_19 a2_0 a2_1 a2_2 a2_3 a2_4 a2_5 a2_6 a2_7)) = some r := by rw [if_neg (show ¬ (false = true) by decide)] at H; exact H
            clear H
            have H := H1
            clear H1
            have HC19 := Aside0.mk H
            clear H
            go_upto_region 4 with (fail)
            go_cut [25] (fun v25 wc => ∃ (kq : Nat) (x25_18 : Bool), v25 = .bool x25_18 ∧ Aside0 (session_refuse.j2 kq a1 x7_3 x25_18 a0_0 a0_1 a0_2 a0_3 a0_4 a0_5 a0_6 a0_7 a0_8 a0_9 a0_10 a0_11 a0_12 a0_13 a0_14 a0_15 a0_16 l0_17 l0_18 l0_19 a2_0 a2_1 a2_2 a2_3 a2_4 a2_5 a2_6 a2_7 = some r) ∧ Aside0 (kq ≤ kj11) ∧ Aside0 (wc.heap[gb116]? = some (.cells #[.int .i64 a0_0, .int .u64 a0_1, .bool a0_2, .int .u64 a0_3, .int .i64 a0_4, .bool a0_5, .int .u32 a0_6, .int .i64 a0_7, .int .i64 a0_8, .int .i64 a0_9, .int .i64 a0_10, .int .i64 a0_11, .int .i64 a0_12, .int .i64 a0_13, .int .i64 a0_14, .int .i64 a0_15, .int .i64 a0_16, (.slice A0_17 l0_17.length c0_17), (.slice A0_18 l0_18.length c0_18), (.slice A0_19 l0_19.length c0_19)] 33 (0, 0))) ∧ Aside0 (wc.heap[gb117]? = some (.cells #[.int .i64 a2_0, .bool a2_1, .int .u32 a2_2, .int .i64 a2_3, .int .i64 a2_4, .int .i64 a2_5, .int .i64 a2_6, .int .i64 a2_7] 27 (0, 0))) ∧ Aside0 (Below w.heap.size w wc))
            case first =>
              have H := HC19.out
              clear HC19
              by_cases c20 : a2_0 = 1
              · rw [if_pos c20] at H
                have c20b0 : (a2_0 == 1) = true := beq_iff_eq.mpr c20
                have c20b1 : (a2_0 != 1) = false := bne_eq_false_iff_eq.mpr c20
                clear c20
                (first | rw [c20b0] | (simp only [i64_w, i32_w]; rw [c20b0]) | skip)
                have H' := Aside0.mk H
                clear H
                have hnb21 := NB117_116.out
                have hnc21 := NB116_117.out
                have hcz22_0 : wc.cell? ⟨gb117, 0, none⟩ = some (.int .i64 a2_0) := (blk_cell BK117.out 0).trans rfl
                have hcz22_1 : wc.cell? ⟨gb117, 1, none⟩ = some (.bool a2_1) := (blk_cell BK117.out 1).trans rfl
                have hcz22_2 : wc.cell? ⟨gb117, 2, none⟩ = some (.int .u32 a2_2) := (blk_cell BK117.out 2).trans rfl
                have hcz22_3 : wc.cell? ⟨gb117, 3, none⟩ = some (.int .i64 a2_3) := (blk_cell BK117.out 3).trans rfl
                have hcz22_4 : wc.cell? ⟨gb117, 4, none⟩ = some (.int .i64 a2_4) := (blk_cell BK117.out 4).trans rfl
                have hcz22_5 : wc.cell? ⟨gb117, 5, none⟩ = some (.int .i64 a2_5) := (blk_cell BK117.out 5).trans rfl
                have hcz22_6 : wc.cell? ⟨gb117, 6, none⟩ = some (.int .i64 a2_6) := (blk_cell BK117.out 6).trans rfl
                have hcz22_7 : wc.cell? ⟨gb117, 7, none⟩ = some (.int .i64 a2_7) := (blk_cell BK117.out 7).trans rfl
                have hfz22_0 := blk_frozen BK117.out 0
                have hfz22_1 := blk_frozen BK117.out 1
                have hfz22_2 := blk_frozen BK117.out 2
                have hfz22_3 := blk_frozen BK117.out 3
                have hfz22_4 := blk_frozen BK117.out 4
                have hfz22_5 := blk_frozen BK117.out 5
                have hfz22_6 := blk_frozen BK117.out 6
                have hfz22_7 := blk_frozen BK117.out 7
                have hcz23_0 : wc.cell? ⟨gb116, 0, none⟩ = some (.int .i64 a0_0) := (blk_cell BK116.out 0).trans rfl
                have hcz23_1 : wc.cell? ⟨gb116, 1, none⟩ = some (.int .u64 a0_1) := (blk_cell BK116.out 1).trans rfl
                have hcz23_2 : wc.cell? ⟨gb116, 2, none⟩ = some (.bool a0_2) := (blk_cell BK116.out 2).trans rfl
                have hcz23_3 : wc.cell? ⟨gb116, 3, none⟩ = some (.int .u64 a0_3) := (blk_cell BK116.out 3).trans rfl
                have hcz23_4 : wc.cell? ⟨gb116, 4, none⟩ = some (.int .i64 a0_4) := (blk_cell BK116.out 4).trans rfl
                have hcz23_5 : wc.cell? ⟨gb116, 5, none⟩ = some (.bool a0_5) := (blk_cell BK116.out 5).trans rfl
                have hcz23_6 : wc.cell? ⟨gb116, 6, none⟩ = some (.int .u32 a0_6) := (blk_cell BK116.out 6).trans rfl
                have hcz23_7 : wc.cell? ⟨gb116, 7, none⟩ = some (.int .i64 a0_7) := (blk_cell BK116.out 7).trans rfl
                have hcz23_8 : wc.cell? ⟨gb116, 8, none⟩ = some (.int .i64 a0_8) := (blk_cell BK116.out 8).trans rfl
                have hcz23_9 : wc.cell? ⟨gb116, 9, none⟩ = some (.int .i64 a0_9) := (blk_cell BK116.out 9).trans rfl
                have hcz23_10 : wc.cell? ⟨gb116, 10, none⟩ = some (.int .i64 a0_10) := (blk_cell BK116.out 10).trans rfl
                have hcz23_11 : wc.cell? ⟨gb116, 11, none⟩ = some (.int .i64 a0_11) := (blk_cell BK116.out 11).trans rfl
                have hcz23_12 : wc.cell? ⟨gb116, 12, none⟩ = some (.int .i64 a0_12) := (blk_cell BK116.out 12).trans rfl
                have hcz23_13 : wc.cell? ⟨gb116, 13, none⟩ = some (.int .i64 a0_13) := (blk_cell BK116.out 13).trans rfl
                have hcz23_14 : wc.cell? ⟨gb116, 14, none⟩ = some (.int .i64 a0_14) := (blk_cell BK116.out 14).trans rfl
                have hcz23_15 : wc.cell? ⟨gb116, 15, none⟩ = some (.int .i64 a0_15) := (blk_cell BK116.out 15).trans rfl
                have hcz23_16 : wc.cell? ⟨gb116, 16, none⟩ = some (.int .i64 a0_16) := (blk_cell BK116.out 16).trans rfl
                have hcz23_17 : wc.cell? ⟨gb116, 17, none⟩ = some (.slice A0_17 l0_17.length c0_17) := (blk_cell BK116.out 17).trans rfl
                have hcz23_18 : wc.cell? ⟨gb116, 18, none⟩ = some (.slice A0_18 l0_18.length c0_18) := (blk_cell BK116.out 18).trans rfl
                have hcz23_19 : wc.cell? ⟨gb116, 19, none⟩ = some (.slice A0_19 l0_19.length c0_19) := (blk_cell BK116.out 19).trans rfl
                have hfz23_0 := blk_frozen BK116.out 0
                have hfz23_1 := blk_frozen BK116.out 1
                have hfz23_2 := blk_frozen BK116.out 2
                have hfz23_3 := blk_frozen BK116.out 3
                have hfz23_4 := blk_frozen BK116.out 4
                have hfz23_5 := blk_frozen BK116.out 5
                have hfz23_6 := blk_frozen BK116.out 6
                have hfz23_7 := blk_frozen BK116.out 7
                have hfz23_8 := blk_frozen BK116.out 8
                have hfz23_9 := blk_frozen BK116.out 9
                have hfz23_10 := blk_frozen BK116.out 10
                have hfz23_11 := blk_frozen BK116.out 11
                have hfz23_12 := blk_frozen BK116.out 12
                have hfz23_13 := blk_frozen BK116.out 13
                have hfz23_14 := blk_frozen BK116.out 14
                have hfz23_15 := blk_frozen BK116.out 15
                have hfz23_16 := blk_frozen BK116.out 16
                have hfz23_17 := blk_frozen BK116.out 17
                have hfz23_18 := blk_frozen BK116.out 18
                have hfz23_19 := blk_frozen BK116.out 19
                go_wp2
                go_meet
                case rel => exact ⟨_, ((a0_0 == 2)), (by first | rfl | (simp; done) | (simp [*]; done)), H', ⟨by have := HJ3.out; have := HJ11.out; first | omega | exact Nat.le_refl _⟩, ⟨by (with_reducible repeat (first | refine blk_drewN ?_ _ | refine blk_drew ?_ | refine blk_alloc ?_ _)); exact BK116.out⟩, ⟨by (with_reducible repeat (first | refine blk_drewN ?_ _ | refine blk_drew ?_ | refine blk_alloc ?_ _)); exact BK117.out⟩, ⟨by repeat (first | (with_reducible first | exact HB.out | apply below_alloc | apply pw_below_drewN | apply below_drew1 | refine below_set ?_ GE116.out | refine below_set ?_ GE117.out) | exact HB.out)⟩⟩
              · rw [if_neg c20] at H
                have c20b0 : (a2_0 == 1) = false := beq_eq_false_iff_ne.mpr c20
                have c20b1 : (a2_0 != 1) = true := bne_iff_ne.mpr c20
                (first | rw [c20b0] | (simp only [i64_w, i32_w]; rw [c20b0]) | skip)
                have H' := Aside0.mk H
                clear H
                have hnb24 := NB117_116.out
                have hnc24 := NB116_117.out
                have hcz25_0 : wc.cell? ⟨gb117, 0, none⟩ = some (.int .i64 a2_0) := (blk_cell BK117.out 0).trans rfl
                have hcz25_1 : wc.cell? ⟨gb117, 1, none⟩ = some (.bool a2_1) := (blk_cell BK117.out 1).trans rfl
                have hcz25_2 : wc.cell? ⟨gb117, 2, none⟩ = some (.int .u32 a2_2) := (blk_cell BK117.out 2).trans rfl
                have hcz25_3 : wc.cell? ⟨gb117, 3, none⟩ = some (.int .i64 a2_3) := (blk_cell BK117.out 3).trans rfl
                have hcz25_4 : wc.cell? ⟨gb117, 4, none⟩ = some (.int .i64 a2_4) := (blk_cell BK117.out 4).trans rfl
                have hcz25_5 : wc.cell? ⟨gb117, 5, none⟩ = some (.int .i64 a2_5) := (blk_cell BK117.out 5).trans rfl
                have hcz25_6 : wc.cell? ⟨gb117, 6, none⟩ = some (.int .i64 a2_6) := (blk_cell BK117.out 6).trans rfl
                have hcz25_7 : wc.cell? ⟨gb117, 7, none⟩ = some (.int .i64 a2_7) := (blk_cell BK117.out 7).trans rfl
                have hfz25_0 := blk_frozen BK117.out 0
                have hfz25_1 := blk_frozen BK117.out 1
                have hfz25_2 := blk_frozen BK117.out 2
                have hfz25_3 := blk_frozen BK117.out 3
                have hfz25_4 := blk_frozen BK117.out 4
                have hfz25_5 := blk_frozen BK117.out 5
                have hfz25_6 := blk_frozen BK117.out 6
                have hfz25_7 := blk_frozen BK117.out 7
                go_wp2
                go_meet
                case rel => exact ⟨_, (false), (by first | rfl | (simp; done) | (simp [*]; done)), H', ⟨by have := HJ3.out; have := HJ11.out; first | omega | exact Nat.le_refl _⟩, ⟨by (with_reducible repeat (first | refine blk_drewN ?_ _ | refine blk_drew ?_ | refine blk_alloc ?_ _)); exact BK116.out⟩, ⟨by (with_reducible repeat (first | refine blk_drewN ?_ _ | refine blk_drew ?_ | refine blk_alloc ?_ _)); exact BK117.out⟩, ⟨by repeat (first | (with_reducible first | exact HB.out | apply below_alloc | apply pw_below_drewN | apply below_drew1 | refine below_set ?_ GE116.out | refine below_set ?_ GE117.out) | exact HB.out)⟩⟩
            case rest =>
              clear HC19
              try clear c1
              try clear c2
              try clear p2
              try clear c3
              try clear c7
              try clear c7b0
              try clear c7b1
              try clear c8
              try clear c10
              try clear c13
              try clear c13b0
              try clear c14
              try clear c16
              try clear c18
              try clear c20
              try clear c20b0
              try clear c20b1
              try clear c21
              try clear c24
              try clear hcz11_0
              try clear hcz11_1
              try clear hcz11_2
              try clear hcz11_3
              try clear hcz11_4
              try clear hcz11_5
              try clear hcz11_6
              try clear hcz11_7
              try clear hcz15_0
              try clear hcz15_1
              try clear hcz15_2
              try clear hcz15_3
              try clear hcz15_4
              try clear hcz15_5
              try clear hcz15_6
              try clear hcz15_7
              try clear hcz17_0
              try clear hcz17_1
              try clear hcz17_2
              try clear hcz17_3
              try clear hcz17_4
              try clear hcz17_5
              try clear hcz17_6
              try clear hcz17_7
              try clear hcz22_0
              try clear hcz22_1
              try clear hcz22_2
              try clear hcz22_3
              try clear hcz22_4
              try clear hcz22_5
              try clear hcz22_6
              try clear hcz22_7
              try clear hcz23_0
              try clear hcz23_1
              try clear hcz23_10
              try clear hcz23_11
              try clear hcz23_12
              try clear hcz23_13
              try clear hcz23_14
              try clear hcz23_15
              try clear hcz23_16
              try clear hcz23_17
              try clear hcz23_18
              try clear hcz23_19
              try clear hcz23_2
              try clear hcz23_3
              try clear hcz23_4
              try clear hcz23_5
              try clear hcz23_6
              try clear hcz23_7
              try clear hcz23_8
              try clear hcz23_9
              try clear hcz25_0
              try clear hcz25_1
              try clear hcz25_2
              try clear hcz25_3
              try clear hcz25_4
              try clear hcz25_5
              try clear hcz25_6
              try clear hcz25_7
              try clear hcz9_0
              try clear hcz9_1
              try clear hcz9_2
              try clear hcz9_3
              try clear hcz9_4
              try clear hcz9_5
              try clear hcz9_6
              try clear hcz9_7
              try clear hfz11_0
              try clear hfz11_1
              try clear hfz11_2
              try clear hfz11_3
              try clear hfz11_4
              try clear hfz11_5
              try clear hfz11_6
              try clear hfz11_7
              try clear hfz15_0
              try clear hfz15_1
              try clear hfz15_2
              try clear hfz15_3
              try clear hfz15_4
              try clear hfz15_5
              try clear hfz15_6
              try clear hfz15_7
              try clear hfz17_0
              try clear hfz17_1
              try clear hfz17_2
              try clear hfz17_3
              try clear hfz17_4
              try clear hfz17_5
              try clear hfz17_6
              try clear hfz17_7
              try clear hfz22_0
              try clear hfz22_1
              try clear hfz22_2
              try clear hfz22_3
              try clear hfz22_4
              try clear hfz22_5
              try clear hfz22_6
              try clear hfz22_7
              try clear hfz23_0
              try clear hfz23_1
              try clear hfz23_10
              try clear hfz23_11
              try clear hfz23_12
              try clear hfz23_13
              try clear hfz23_14
              try clear hfz23_15
              try clear hfz23_16
              try clear hfz23_17
              try clear hfz23_18
              try clear hfz23_19
              try clear hfz23_2
              try clear hfz23_3
              try clear hfz23_4
              try clear hfz23_5
              try clear hfz23_6
              try clear hfz23_7
              try clear hfz23_8
              try clear hfz23_9
              try clear hfz25_0
              try clear hfz25_1
              try clear hfz25_2
              try clear hfz25_3
              try clear hfz25_4
              try clear hfz25_5
              try clear hfz25_6
              try clear hfz25_7
              try clear hfz9_0
              try clear hfz9_1
              try clear hfz9_2
              try clear hfz9_3
              try clear hfz9_4
              try clear hfz9_5
              try clear hfz9_6
              try clear hfz9_7
              try clear p2
              obtain ⟨kq, x25_18, rfl, HA, HJ18, BK116, BK117, HB⟩ := hcut
              cases kq with
              | zero => exact absurd HA.out (by simp [session_refuse.j2])
              | succ kj18 =>
                have H := HA.out
                clear HA
                simp only [session_refuse.j2] at H
                by_cases c26 : x25_18 = true
                · subst c26
                  have H1 : (some 311) = some r := by rw [if_pos rfl] at H; exact H
                  clear H
                  have H := H1
                  clear H1
                  obtain rfl := Option.some.inj H
                  go_wp2
                  go_ret
                  exact ⟨by first | rfl | (simp [errW_none, errW_some] <;> rfl) | (simp [*, errW_none, errW_some] <;> rfl), by repeat (first | (with_reducible first | exact HB.out | apply below_alloc | apply pw_below_drewN | apply below_drew1 | refine below_set ?_ GE116.out | refine below_set ?_ GE117.out) | exact HB.out)⟩
                · replace c26 := Bool.eq_false_iff.mpr c26
                  subst c26
                  have H1 : (if a2_0 = 1 then (session_refuse.j3 kj18 a1 x7_3 false a0_0 a0_1 a0_2 a0_3 a0_4 a0_5 a0_6 a0_7 a0_8 a0_9 a0_10 a0_11 a0_12 a0_13 a0_14 a0_15 a0_16 l0_17 l0_18 l0_19 a2_0 a2_1 a2_2 a2_3 a2_4 a2_5 a2_6 a2_7) else (session_refuse.j3 kj18 a1 x7_3 (a0_0 == 1) a0_0 a0_1 a0_2 a0_3 a0_4 a0_5 a0_6 a0_7 a0_8 a0_9 a0_10 a0_11 a0_12 a0_13 a0_14 a0_15 a0_16 l0_17 l0_18 l0_19 a2_0 a2_1 a2_2 a2_3 a2_4 a2_5 a2_6 a2_7)) = some r := by rw [if_neg (show ¬ (false = true) by decide)] at H; exact H
                  clear H
                  have H := H1
                  clear H1
                  have HC27 := Aside0.mk H
                  clear H
                  go_upto_region 6 with (fail)
                  go_cut [34] (fun v34 wc => ∃ (kq : Nat) (x34_26 : Bool), v34 = .bool x34_26 ∧ Aside0 (session_refuse.j3 kq a1 x7_3 x34_26 a0_0 a0_1 a0_2 a0_3 a0_4 a0_5 a0_6 a0_7 a0_8 a0_9 a0_10 a0_11 a0_12 a0_13 a0_14 a0_15 a0_16 l0_17 l0_18 l0_19 a2_0 a2_1 a2_2 a2_3 a2_4 a2_5 a2_6 a2_7 = some r) ∧ Aside0 (kq ≤ kj18) ∧ Aside0 (wc.heap[gb116]? = some (.cells #[.int .i64 a0_0, .int .u64 a0_1, .bool a0_2, .int .u64 a0_3, .int .i64 a0_4, .bool a0_5, .int .u32 a0_6, .int .i64 a0_7, .int .i64 a0_8, .int .i64 a0_9, .int .i64 a0_10, .int .i64 a0_11, .int .i64 a0_12, .int .i64 a0_13, .int .i64 a0_14, .int .i64 a0_15, .int .i64 a0_16, (.slice A0_17 l0_17.length c0_17), (.slice A0_18 l0_18.length c0_18), (.slice A0_19 l0_19.length c0_19)] 33 (0, 0))) ∧ Aside0 (wc.heap[gb117]? = some (.cells #[.int .i64 a2_0, .bool a2_1, .int .u32 a2_2, .int .i64 a2_3, .int .i64 a2_4, .int .i64 a2_5, .int .i64 a2_6, .int .i64 a2_7] 27 (0, 0))) ∧ Aside0 (Below w.heap.size w wc))
                  case first =>
                    have H := HC27.out
                    clear HC27
                    by_cases c28 : a2_0 = 1
                    · rw [if_pos c28] at H
                      have c28b0 : (a2_0 == 1) = true := beq_iff_eq.mpr c28
                      have c28b1 : (a2_0 != 1) = false := bne_eq_false_iff_eq.mpr c28
                      clear c28
                      (first | rw [c28b0] | (simp only [i64_w, i32_w]; rw [c28b0]) | skip)
                      have H' := Aside0.mk H
                      clear H
                      have hnb29 := NB117_116.out
                      have hnc29 := NB116_117.out
                      have hcz30_0 : wc.cell? ⟨gb117, 0, none⟩ = some (.int .i64 a2_0) := (blk_cell BK117.out 0).trans rfl
                      have hcz30_1 : wc.cell? ⟨gb117, 1, none⟩ = some (.bool a2_1) := (blk_cell BK117.out 1).trans rfl
                      have hcz30_2 : wc.cell? ⟨gb117, 2, none⟩ = some (.int .u32 a2_2) := (blk_cell BK117.out 2).trans rfl
                      have hcz30_3 : wc.cell? ⟨gb117, 3, none⟩ = some (.int .i64 a2_3) := (blk_cell BK117.out 3).trans rfl
                      have hcz30_4 : wc.cell? ⟨gb117, 4, none⟩ = some (.int .i64 a2_4) := (blk_cell BK117.out 4).trans rfl
                      have hcz30_5 : wc.cell? ⟨gb117, 5, none⟩ = some (.int .i64 a2_5) := (blk_cell BK117.out 5).trans rfl
                      have hcz30_6 : wc.cell? ⟨gb117, 6, none⟩ = some (.int .i64 a2_6) := (blk_cell BK117.out 6).trans rfl
                      have hcz30_7 : wc.cell? ⟨gb117, 7, none⟩ = some (.int .i64 a2_7) := (blk_cell BK117.out 7).trans rfl
                      have hfz30_0 := blk_frozen BK117.out 0
                      have hfz30_1 := blk_frozen BK117.out 1
                      have hfz30_2 := blk_frozen BK117.out 2
                      have hfz30_3 := blk_frozen BK117.out 3
                      have hfz30_4 := blk_frozen BK117.out 4
                      have hfz30_5 := blk_frozen BK117.out 5
                      have hfz30_6 := blk_frozen BK117.out 6
                      have hfz30_7 := blk_frozen BK117.out 7
                      go_wp2
                      go_meet
                      case rel => exact ⟨_, (false), (by first | rfl | (simp; done) | (simp [*]; done)), H', ⟨by have := HJ3.out; have := HJ11.out; have := HJ18.out; first | omega | exact Nat.le_refl _⟩, ⟨by (with_reducible repeat (first | refine blk_drewN ?_ _ | refine blk_drew ?_ | refine blk_alloc ?_ _)); exact BK116.out⟩, ⟨by (with_reducible repeat (first | refine blk_drewN ?_ _ | refine blk_drew ?_ | refine blk_alloc ?_ _)); exact BK117.out⟩, ⟨by repeat (first | (with_reducible first | exact HB.out | apply below_alloc | apply pw_below_drewN | apply below_drew1 | refine below_set ?_ GE116.out | refine below_set ?_ GE117.out) | exact HB.out)⟩⟩
                    · rw [if_neg c28] at H
                      have c28b0 : (a2_0 == 1) = false := beq_eq_false_iff_ne.mpr c28
                      have c28b1 : (a2_0 != 1) = true := bne_iff_ne.mpr c28
                      (first | rw [c28b0] | (simp only [i64_w, i32_w]; rw [c28b0]) | skip)
                      have H' := Aside0.mk H
                      clear H
                      have hnb31 := NB117_116.out
                      have hnc31 := NB116_117.out
                      have hcz32_0 : wc.cell? ⟨gb117, 0, none⟩ = some (.int .i64 a2_0) := (blk_cell BK117.out 0).trans rfl
                      have hcz32_1 : wc.cell? ⟨gb117, 1, none⟩ = some (.bool a2_1) := (blk_cell BK117.out 1).trans rfl
                      have hcz32_2 : wc.cell? ⟨gb117, 2, none⟩ = some (.int .u32 a2_2) := (blk_cell BK117.out 2).trans rfl
                      have hcz32_3 : wc.cell? ⟨gb117, 3, none⟩ = some (.int .i64 a2_3) := (blk_cell BK117.out 3).trans rfl
                      have hcz32_4 : wc.cell? ⟨gb117, 4, none⟩ = some (.int .i64 a2_4) := (blk_cell BK117.out 4).trans rfl
                      have hcz32_5 : wc.cell? ⟨gb117, 5, none⟩ = some (.int .i64 a2_5) := (blk_cell BK117.out 5).trans rfl
                      have hcz32_6 : wc.cell? ⟨gb117, 6, none⟩ = some (.int .i64 a2_6) := (blk_cell BK117.out 6).trans rfl
                      have hcz32_7 : wc.cell? ⟨gb117, 7, none⟩ = some (.int .i64 a2_7) := (blk_cell BK117.out 7).trans rfl
                      have hfz32_0 := blk_frozen BK117.out 0
                      have hfz32_1 := blk_frozen BK117.out 1
                      have hfz32_2 := blk_frozen BK117.out 2
                      have hfz32_3 := blk_frozen BK117.out 3
                      have hfz32_4 := blk_frozen BK117.out 4
                      have hfz32_5 := blk_frozen BK117.out 5
                      have hfz32_6 := blk_frozen BK117.out 6
                      have hfz32_7 := blk_frozen BK117.out 7
                      have hcz33_0 : wc.cell? ⟨gb116, 0, none⟩ = some (.int .i64 a0_0) := (blk_cell BK116.out 0).trans rfl
                      have hcz33_1 : wc.cell? ⟨gb116, 1, none⟩ = some (.int .u64 a0_1) := (blk_cell BK116.out 1).trans rfl
                      have hcz33_2 : wc.cell? ⟨gb116, 2, none⟩ = some (.bool a0_2) := (blk_cell BK116.out 2).trans rfl
                      have hcz33_3 : wc.cell? ⟨gb116, 3, none⟩ = some (.int .u64 a0_3) := (blk_cell BK116.out 3).trans rfl
                      have hcz33_4 : wc.cell? ⟨gb116, 4, none⟩ = some (.int .i64 a0_4) := (blk_cell BK116.out 4).trans rfl
                      have hcz33_5 : wc.cell? ⟨gb116, 5, none⟩ = some (.bool a0_5) := (blk_cell BK116.out 5).trans rfl
                      have hcz33_6 : wc.cell? ⟨gb116, 6, none⟩ = some (.int .u32 a0_6) := (blk_cell BK116.out 6).trans rfl
                      have hcz33_7 : wc.cell? ⟨gb116, 7, none⟩ = some (.int .i64 a0_7) := (blk_cell BK116.out 7).trans rfl
                      have hcz33_8 : wc.cell? ⟨gb116, 8, none⟩ = some (.int .i64 a0_8) := (blk_cell BK116.out 8).trans rfl
                      have hcz33_9 : wc.cell? ⟨gb116, 9, none⟩ = some (.int .i64 a0_9) := (blk_cell BK116.out 9).trans rfl
                      have hcz33_10 : wc.cell? ⟨gb116, 10, none⟩ = some (.int .i64 a0_10) := (blk_cell BK116.out 10).trans rfl
                      have hcz33_11 : wc.cell? ⟨gb116, 11, none⟩ = some (.int .i64 a0_11) := (blk_cell BK116.out 11).trans rfl
                      have hcz33_12 : wc.cell? ⟨gb116, 12, none⟩ = some (.int .i64 a0_12) := (blk_cell BK116.out 12).trans rfl
                      have hcz33_13 : wc.cell? ⟨gb116, 13, none⟩ = some (.int .i64 a0_13) := (blk_cell BK116.out 13).trans rfl
                      have hcz33_14 : wc.cell? ⟨gb116, 14, none⟩ = some (.int .i64 a0_14) := (blk_cell BK116.out 14).trans rfl
                      have hcz33_15 : wc.cell? ⟨gb116, 15, none⟩ = some (.int .i64 a0_15) := (blk_cell BK116.out 15).trans rfl
                      have hcz33_16 : wc.cell? ⟨gb116, 16, none⟩ = some (.int .i64 a0_16) := (blk_cell BK116.out 16).trans rfl
                      have hcz33_17 : wc.cell? ⟨gb116, 17, none⟩ = some (.slice A0_17 l0_17.length c0_17) := (blk_cell BK116.out 17).trans rfl
                      have hcz33_18 : wc.cell? ⟨gb116, 18, none⟩ = some (.slice A0_18 l0_18.length c0_18) := (blk_cell BK116.out 18).trans rfl
                      have hcz33_19 : wc.cell? ⟨gb116, 19, none⟩ = some (.slice A0_19 l0_19.length c0_19) := (blk_cell BK116.out 19).trans rfl
                      have hfz33_0 := blk_frozen BK116.out 0
                      have hfz33_1 := blk_frozen BK116.out 1
                      have hfz33_2 := blk_frozen BK116.out 2
                      have hfz33_3 := blk_frozen BK116.out 3
                      have hfz33_4 := blk_frozen BK116.out 4
                      have hfz33_5 := blk_frozen BK116.out 5
                      have hfz33_6 := blk_frozen BK116.out 6
                      have hfz33_7 := blk_frozen BK116.out 7
                      have hfz33_8 := blk_frozen BK116.out 8
                      have hfz33_9 := blk_frozen BK116.out 9
                      have hfz33_10 := blk_frozen BK116.out 10
                      have hfz33_11 := blk_frozen BK116.out 11
                      have hfz33_12 := blk_frozen BK116.out 12
                      have hfz33_13 := blk_frozen BK116.out 13
                      have hfz33_14 := blk_frozen BK116.out 14
                      have hfz33_15 := blk_frozen BK116.out 15
                      have hfz33_16 := blk_frozen BK116.out 16
                      have hfz33_17 := blk_frozen BK116.out 17
                      have hfz33_18 := blk_frozen BK116.out 18
                      have hfz33_19 := blk_frozen BK116.out 19
                      go_wp2
                      go_meet
                      case rel => exact ⟨_, ((a0_0 == 1)), (by first | rfl | (simp; done) | (simp [*]; done)), H', ⟨by have := HJ3.out; have := HJ11.out; have := HJ18.out; first | omega | exact Nat.le_refl _⟩, ⟨by (with_reducible repeat (first | refine blk_drewN ?_ _ | refine blk_drew ?_ | refine blk_alloc ?_ _)); exact BK116.out⟩, ⟨by (with_reducible repeat (first | refine blk_drewN ?_ _ | refine blk_drew ?_ | refine blk_alloc ?_ _)); exact BK117.out⟩, ⟨by repeat (first | (with_reducible first | exact HB.out | apply below_alloc | apply pw_below_drewN | apply below_drew1 | refine below_set ?_ GE116.out | refine below_set ?_ GE117.out) | exact HB.out)⟩⟩
                  case rest =>
                    clear HC27
                    try clear c1
                    try clear c2
                    try clear p2
                    try clear c3
                    try clear c7
                    try clear c7b0
                    try clear c7b1
                    try clear c8
                    try clear c10
                    try clear c13
                    try clear c13b0
                    try clear c14
                    try clear c16
                    try clear c18
                    try clear c20
                    try clear c20b0
                    try clear c20b1
                    try clear c21
                    try clear c24
                    try clear c26
                    try clear c28
                    try clear c28b0
                    try clear c28b1
                    try clear c29
                    try clear c31
                    try clear hcz11_0
                    try clear hcz11_1
                    try clear hcz11_2
                    try clear hcz11_3
                    try clear hcz11_4
                    try clear hcz11_5
                    try clear hcz11_6
                    try clear hcz11_7
                    try clear hcz15_0
                    try clear hcz15_1
                    try clear hcz15_2
                    try clear hcz15_3
                    try clear hcz15_4
                    try clear hcz15_5
                    try clear hcz15_6
                    try clear hcz15_7
                    try clear hcz17_0
                    try clear hcz17_1
                    try clear hcz17_2
                    try clear hcz17_3
                    try clear hcz17_4
                    try clear hcz17_5
                    try clear hcz17_6
                    try clear hcz17_7
                    try clear hcz22_0
                    try clear hcz22_1
                    try clear hcz22_2
                    try clear hcz22_3
                    try clear hcz22_4
                    try clear hcz22_5
                    try clear hcz22_6
                    try clear hcz22_7
                    try clear hcz23_0
                    try clear hcz23_1
                    try clear hcz23_10
                    try clear hcz23_11
                    try clear hcz23_12
                    try clear hcz23_13
                    try clear hcz23_14
                    try clear hcz23_15
                    try clear hcz23_16
                    try clear hcz23_17
                    try clear hcz23_18
                    try clear hcz23_19
                    try clear hcz23_2
                    try clear hcz23_3
                    try clear hcz23_4
                    try clear hcz23_5
                    try clear hcz23_6
                    try clear hcz23_7
                    try clear hcz23_8
                    try clear hcz23_9
                    try clear hcz25_0
                    try clear hcz25_1
                    try clear hcz25_2
                    try clear hcz25_3
                    try clear hcz25_4
                    try clear hcz25_5
                    try clear hcz25_6
                    try clear hcz25_7
                    try clear hcz30_0
                    try clear hcz30_1
                    try clear hcz30_2
                    try clear hcz30_3
                    try clear hcz30_4
                    try clear hcz30_5
                    try clear hcz30_6
                    try clear hcz30_7
                    try clear hcz32_0
                    try clear hcz32_1
                    try clear hcz32_2
                    try clear hcz32_3
                    try clear hcz32_4
                    try clear hcz32_5
                    try clear hcz32_6
                    try clear hcz32_7
                    try clear hcz33_0
                    try clear hcz33_1
                    try clear hcz33_10
                    try clear hcz33_11
                    try clear hcz33_12
                    try clear hcz33_13
                    try clear hcz33_14
                    try clear hcz33_15
                    try clear hcz33_16
                    try clear hcz33_17
                    try clear hcz33_18
                    try clear hcz33_19
                    try clear hcz33_2
                    try clear hcz33_3
                    try clear hcz33_4
                    try clear hcz33_5
                    try clear hcz33_6
                    try clear hcz33_7
                    try clear hcz33_8
                    try clear hcz33_9
                    try clear hcz9_0
                    try clear hcz9_1
                    try clear hcz9_2
                    try clear hcz9_3
                    try clear hcz9_4
                    try clear hcz9_5
                    try clear hcz9_6
                    try clear hcz9_7
                    try clear hfz11_0
                    try clear hfz11_1
                    try clear hfz11_2
                    try clear hfz11_3
                    try clear hfz11_4
                    try clear hfz11_5
                    try clear hfz11_6
                    try clear hfz11_7
                    try clear hfz15_0
                    try clear hfz15_1
                    try clear hfz15_2
                    try clear hfz15_3
                    try clear hfz15_4
                    try clear hfz15_5
                    try clear hfz15_6
                    try clear hfz15_7
                    try clear hfz17_0
                    try clear hfz17_1
                    try clear hfz17_2
                    try clear hfz17_3
                    try clear hfz17_4
                    try clear hfz17_5
                    try clear hfz17_6
                    try clear hfz17_7
                    try clear hfz22_0
                    try clear hfz22_1
                    try clear hfz22_2
                    try clear hfz22_3
                    try clear hfz22_4
                    try clear hfz22_5
                    try clear hfz22_6
                    try clear hfz22_7
                    try clear hfz23_0
                    try clear hfz23_1
                    try clear hfz23_10
                    try clear hfz23_11
                    try clear hfz23_12
                    try clear hfz23_13
                    try clear hfz23_14
                    try clear hfz23_15
                    try clear hfz23_16
                    try clear hfz23_17
                    try clear hfz23_18
                    try clear hfz23_19
                    try clear hfz23_2
                    try clear hfz23_3
                    try clear hfz23_4
                    try clear hfz23_5
                    try clear hfz23_6
                    try clear hfz23_7
                    try clear hfz23_8
                    try clear hfz23_9
                    try clear hfz25_0
                    try clear hfz25_1
                    try clear hfz25_2
                    try clear hfz25_3
                    try clear hfz25_4
                    try clear hfz25_5
                    try clear hfz25_6
                    try clear hfz25_7
                    try clear hfz30_0
                    try clear hfz30_1
                    try clear hfz30_2
                    try clear hfz30_3
                    try clear hfz30_4
                    try clear hfz30_5
                    try clear hfz30_6
                    try clear hfz30_7
                    try clear hfz32_0
                    try clear hfz32_1
                    try clear hfz32_2
                    try clear hfz32_3
                    try clear hfz32_4
                    try clear hfz32_5
                    try clear hfz32_6
                    try clear hfz32_7
                    try clear hfz33_0
                    try clear hfz33_1
                    try clear hfz33_10
                    try clear hfz33_11
                    try clear hfz33_12
                    try clear hfz33_13
                    try clear hfz33_14
                    try clear hfz33_15
                    try clear hfz33_16
                    try clear hfz33_17
                    try clear hfz33_18
                    try clear hfz33_19
                    try clear hfz33_2
                    try clear hfz33_3
                    try clear hfz33_4
                    try clear hfz33_5
                    try clear hfz33_6
                    try clear hfz33_7
                    try clear hfz33_8
                    try clear hfz33_9
                    try clear hfz9_0
                    try clear hfz9_1
                    try clear hfz9_2
                    try clear hfz9_3
                    try clear hfz9_4
                    try clear hfz9_5
                    try clear hfz9_6
                    try clear hfz9_7
                    try clear p2
                    obtain ⟨kq, x34_26, rfl, HA, HJ26, BK116, BK117, HB⟩ := hcut
                    cases kq with
                    | zero => exact absurd HA.out (by simp [session_refuse.j3])
                    | succ kj26 =>
                      have H := HA.out
                      clear HA
                      simp only [session_refuse.j3] at H
                      by_cases c34 : x34_26 = true
                      · subst c34
                        have H1 : (some 312) = some r := by rw [if_pos rfl] at H; exact H
                        clear H
                        have H := H1
                        clear H1
                        obtain rfl := Option.some.inj H
                        go_wp2
                        go_ret
                        exact ⟨by first | rfl | (simp [errW_none, errW_some] <;> rfl) | (simp [*, errW_none, errW_some] <;> rfl), by repeat (first | (with_reducible first | exact HB.out | apply below_alloc | apply pw_below_drewN | apply below_drew1 | refine below_set ?_ GE116.out | refine below_set ?_ GE117.out) | exact HB.out)⟩
                      · replace c34 := Bool.eq_false_iff.mpr c34
                        subst c34
                        have H1 : (if x7_3 = true then (session_refuse.j4 kj26 a1 x7_3 a0_2 a2_0 a2_1 a2_2 a2_3 a2_4 a2_5 a2_6 a2_7) else (session_refuse.j4 kj26 a1 x7_3 false a2_0 a2_1 a2_2 a2_3 a2_4 a2_5 a2_6 a2_7)) = some r := by rw [if_neg (show ¬ (false = true) by decide)] at H; exact H
                        clear H
                        have H := H1
                        clear H1
                        have HC35 := Aside0.mk H
                        clear H
                        go_upto_region 8 with (fail)
                        go_cut [43] (fun v43 wc => ∃ (kq : Nat) (x43_34 : Bool), v43 = .bool x43_34 ∧ Aside0 (session_refuse.j4 kq a1 x7_3 x43_34 a2_0 a2_1 a2_2 a2_3 a2_4 a2_5 a2_6 a2_7 = some r) ∧ Aside0 (kq ≤ kj26) ∧ Aside0 (wc.heap[gb116]? = some (.cells #[.int .i64 a0_0, .int .u64 a0_1, .bool a0_2, .int .u64 a0_3, .int .i64 a0_4, .bool a0_5, .int .u32 a0_6, .int .i64 a0_7, .int .i64 a0_8, .int .i64 a0_9, .int .i64 a0_10, .int .i64 a0_11, .int .i64 a0_12, .int .i64 a0_13, .int .i64 a0_14, .int .i64 a0_15, .int .i64 a0_16, (.slice A0_17 l0_17.length c0_17), (.slice A0_18 l0_18.length c0_18), (.slice A0_19 l0_19.length c0_19)] 33 (0, 0))) ∧ Aside0 (wc.heap[gb117]? = some (.cells #[.int .i64 a2_0, .bool a2_1, .int .u32 a2_2, .int .i64 a2_3, .int .i64 a2_4, .int .i64 a2_5, .int .i64 a2_6, .int .i64 a2_7] 27 (0, 0))) ∧ Aside0 (Below w.heap.size w wc))
                        case first =>
                          have H := HC35.out
                          clear HC35
                          by_cases c36 : x7_3 = true
                          · subst c36
                            have H1 : (session_refuse.j4 kj26 a1 true a0_2 a2_0 a2_1 a2_2 a2_3 a2_4 a2_5 a2_6 a2_7) = some r := by rw [if_pos rfl] at H; exact H
                            clear H
                            have H := H1
                            clear H1
                            have H' := Aside0.mk H
                            clear H
                            have hnb37 := NB116_117.out
                            have hnc37 := NB117_116.out
                            have hcz38_0 : wc.cell? ⟨gb116, 0, none⟩ = some (.int .i64 a0_0) := (blk_cell BK116.out 0).trans rfl
                            have hcz38_1 : wc.cell? ⟨gb116, 1, none⟩ = some (.int .u64 a0_1) := (blk_cell BK116.out 1).trans rfl
                            have hcz38_2 : wc.cell? ⟨gb116, 2, none⟩ = some (.bool a0_2) := (blk_cell BK116.out 2).trans rfl
                            have hcz38_3 : wc.cell? ⟨gb116, 3, none⟩ = some (.int .u64 a0_3) := (blk_cell BK116.out 3).trans rfl
                            have hcz38_4 : wc.cell? ⟨gb116, 4, none⟩ = some (.int .i64 a0_4) := (blk_cell BK116.out 4).trans rfl
                            have hcz38_5 : wc.cell? ⟨gb116, 5, none⟩ = some (.bool a0_5) := (blk_cell BK116.out 5).trans rfl
                            have hcz38_6 : wc.cell? ⟨gb116, 6, none⟩ = some (.int .u32 a0_6) := (blk_cell BK116.out 6).trans rfl
                            have hcz38_7 : wc.cell? ⟨gb116, 7, none⟩ = some (.int .i64 a0_7) := (blk_cell BK116.out 7).trans rfl
                            have hcz38_8 : wc.cell? ⟨gb116, 8, none⟩ = some (.int .i64 a0_8) := (blk_cell BK116.out 8).trans rfl
                            have hcz38_9 : wc.cell? ⟨gb116, 9, none⟩ = some (.int .i64 a0_9) := (blk_cell BK116.out 9).trans rfl
                            have hcz38_10 : wc.cell? ⟨gb116, 10, none⟩ = some (.int .i64 a0_10) := (blk_cell BK116.out 10).trans rfl
                            have hcz38_11 : wc.cell? ⟨gb116, 11, none⟩ = some (.int .i64 a0_11) := (blk_cell BK116.out 11).trans rfl
                            have hcz38_12 : wc.cell? ⟨gb116, 12, none⟩ = some (.int .i64 a0_12) := (blk_cell BK116.out 12).trans rfl
                            have hcz38_13 : wc.cell? ⟨gb116, 13, none⟩ = some (.int .i64 a0_13) := (blk_cell BK116.out 13).trans rfl
                            have hcz38_14 : wc.cell? ⟨gb116, 14, none⟩ = some (.int .i64 a0_14) := (blk_cell BK116.out 14).trans rfl
                            have hcz38_15 : wc.cell? ⟨gb116, 15, none⟩ = some (.int .i64 a0_15) := (blk_cell BK116.out 15).trans rfl
                            have hcz38_16 : wc.cell? ⟨gb116, 16, none⟩ = some (.int .i64 a0_16) := (blk_cell BK116.out 16).trans rfl
                            have hcz38_17 : wc.cell? ⟨gb116, 17, none⟩ = some (.slice A0_17 l0_17.length c0_17) := (blk_cell BK116.out 17).trans rfl
                            have hcz38_18 : wc.cell? ⟨gb116, 18, none⟩ = some (.slice A0_18 l0_18.length c0_18) := (blk_cell BK116.out 18).trans rfl
                            have hcz38_19 : wc.cell? ⟨gb116, 19, none⟩ = some (.slice A0_19 l0_19.length c0_19) := (blk_cell BK116.out 19).trans rfl
                            have hfz38_0 := blk_frozen BK116.out 0
                            have hfz38_1 := blk_frozen BK116.out 1
                            have hfz38_2 := blk_frozen BK116.out 2
                            have hfz38_3 := blk_frozen BK116.out 3
                            have hfz38_4 := blk_frozen BK116.out 4
                            have hfz38_5 := blk_frozen BK116.out 5
                            have hfz38_6 := blk_frozen BK116.out 6
                            have hfz38_7 := blk_frozen BK116.out 7
                            have hfz38_8 := blk_frozen BK116.out 8
                            have hfz38_9 := blk_frozen BK116.out 9
                            have hfz38_10 := blk_frozen BK116.out 10
                            have hfz38_11 := blk_frozen BK116.out 11
                            have hfz38_12 := blk_frozen BK116.out 12
                            have hfz38_13 := blk_frozen BK116.out 13
                            have hfz38_14 := blk_frozen BK116.out 14
                            have hfz38_15 := blk_frozen BK116.out 15
                            have hfz38_16 := blk_frozen BK116.out 16
                            have hfz38_17 := blk_frozen BK116.out 17
                            have hfz38_18 := blk_frozen BK116.out 18
                            have hfz38_19 := blk_frozen BK116.out 19
                            go_wp2
                            go_meet
                            case rel => exact ⟨_, (a0_2), (by first | rfl | (simp; done) | (simp [*]; done)), H', ⟨by have := HJ3.out; have := HJ11.out; have := HJ18.out; have := HJ26.out; first | omega | exact Nat.le_refl _⟩, ⟨by (with_reducible repeat (first | refine blk_drewN ?_ _ | refine blk_drew ?_ | refine blk_alloc ?_ _)); exact BK116.out⟩, ⟨by (with_reducible repeat (first | refine blk_drewN ?_ _ | refine blk_drew ?_ | refine blk_alloc ?_ _)); exact BK117.out⟩, ⟨by repeat (first | (with_reducible first | exact HB.out | apply below_alloc | apply pw_below_drewN | apply below_drew1 | refine below_set ?_ GE116.out | refine below_set ?_ GE117.out) | exact HB.out)⟩⟩
                          · replace c36 := Bool.eq_false_iff.mpr c36
                            subst c36
                            have H1 : (session_refuse.j4 kj26 a1 false false a2_0 a2_1 a2_2 a2_3 a2_4 a2_5 a2_6 a2_7) = some r := by rw [if_neg (show ¬ (false = true) by decide)] at H; exact H
                            clear H
                            have H := H1
                            clear H1
                            have H' := Aside0.mk H
                            clear H
                            go_wp2
                            go_meet
                            case rel => exact ⟨_, (false), (by first | rfl | (simp; done) | (simp [*]; done)), H', ⟨by have := HJ3.out; have := HJ11.out; have := HJ18.out; have := HJ26.out; first | omega | exact Nat.le_refl _⟩, ⟨by (with_reducible repeat (first | refine blk_drewN ?_ _ | refine blk_drew ?_ | refine blk_alloc ?_ _)); exact BK116.out⟩, ⟨by (with_reducible repeat (first | refine blk_drewN ?_ _ | refine blk_drew ?_ | refine blk_alloc ?_ _)); exact BK117.out⟩, ⟨by repeat (first | (with_reducible first | exact HB.out | apply below_alloc | apply pw_below_drewN | apply below_drew1 | refine below_set ?_ GE116.out | refine below_set ?_ GE117.out) | exact HB.out)⟩⟩
                        case rest =>
                          clear HC35
                          try clear c1
                          try clear c2
                          try clear p2
                          try clear c3
                          try clear c7
                          try clear c7b0
                          try clear c7b1
                          try clear c8
                          try clear c10
                          try clear c13
                          try clear c13b0
                          try clear c14
                          try clear c16
                          try clear c18
                          try clear c20
                          try clear c20b0
                          try clear c20b1
                          try clear c21
                          try clear c24
                          try clear c26
                          try clear c28
                          try clear c28b0
                          try clear c28b1
                          try clear c29
                          try clear c31
                          try clear c34
                          try clear c36
                          try clear c37
                          try clear hcz11_0
                          try clear hcz11_1
                          try clear hcz11_2
                          try clear hcz11_3
                          try clear hcz11_4
                          try clear hcz11_5
                          try clear hcz11_6
                          try clear hcz11_7
                          try clear hcz15_0
                          try clear hcz15_1
                          try clear hcz15_2
                          try clear hcz15_3
                          try clear hcz15_4
                          try clear hcz15_5
                          try clear hcz15_6
                          try clear hcz15_7
                          try clear hcz17_0
                          try clear hcz17_1
                          try clear hcz17_2
                          try clear hcz17_3
                          try clear hcz17_4
                          try clear hcz17_5
                          try clear hcz17_6
                          try clear hcz17_7
                          try clear hcz22_0
                          try clear hcz22_1
                          try clear hcz22_2
                          try clear hcz22_3
                          try clear hcz22_4
                          try clear hcz22_5
                          try clear hcz22_6
                          try clear hcz22_7
                          try clear hcz23_0
                          try clear hcz23_1
                          try clear hcz23_10
                          try clear hcz23_11
                          try clear hcz23_12
                          try clear hcz23_13
                          try clear hcz23_14
                          try clear hcz23_15
                          try clear hcz23_16
                          try clear hcz23_17
                          try clear hcz23_18
                          try clear hcz23_19
                          try clear hcz23_2
                          try clear hcz23_3
                          try clear hcz23_4
                          try clear hcz23_5
                          try clear hcz23_6
                          try clear hcz23_7
                          try clear hcz23_8
                          try clear hcz23_9
                          try clear hcz25_0
                          try clear hcz25_1
                          try clear hcz25_2
                          try clear hcz25_3
                          try clear hcz25_4
                          try clear hcz25_5
                          try clear hcz25_6
                          try clear hcz25_7
                          try clear hcz30_0
                          try clear hcz30_1
                          try clear hcz30_2
                          try clear hcz30_3
                          try clear hcz30_4
                          try clear hcz30_5
                          try clear hcz30_6
                          try clear hcz30_7
                          try clear hcz32_0
                          try clear hcz32_1
                          try clear hcz32_2
                          try clear hcz32_3
                          try clear hcz32_4
                          try clear hcz32_5
                          try clear hcz32_6
                          try clear hcz32_7
                          try clear hcz33_0
                          try clear hcz33_1
                          try clear hcz33_10
                          try clear hcz33_11
                          try clear hcz33_12
                          try clear hcz33_13
                          try clear hcz33_14
                          try clear hcz33_15
                          try clear hcz33_16
                          try clear hcz33_17
                          try clear hcz33_18
                          try clear hcz33_19
                          try clear hcz33_2
                          try clear hcz33_3
                          try clear hcz33_4
                          try clear hcz33_5
                          try clear hcz33_6
                          try clear hcz33_7
                          try clear hcz33_8
                          try clear hcz33_9
                          try clear hcz38_0
                          try clear hcz38_1
                          try clear hcz38_10
                          try clear hcz38_11
                          try clear hcz38_12
                          try clear hcz38_13
                          try clear hcz38_14
                          try clear hcz38_15
                          try clear hcz38_16
                          try clear hcz38_17
                          try clear hcz38_18
                          try clear hcz38_19
                          try clear hcz38_2
                          try clear hcz38_3
                          try clear hcz38_4
                          try clear hcz38_5
                          try clear hcz38_6
                          try clear hcz38_7
                          try clear hcz38_8
                          try clear hcz38_9
                          try clear hcz9_0
                          try clear hcz9_1
                          try clear hcz9_2
                          try clear hcz9_3
                          try clear hcz9_4
                          try clear hcz9_5
                          try clear hcz9_6
                          try clear hcz9_7
                          try clear hfz11_0
                          try clear hfz11_1
                          try clear hfz11_2
                          try clear hfz11_3
                          try clear hfz11_4
                          try clear hfz11_5
                          try clear hfz11_6
                          try clear hfz11_7
                          try clear hfz15_0
                          try clear hfz15_1
                          try clear hfz15_2
                          try clear hfz15_3
                          try clear hfz15_4
                          try clear hfz15_5
                          try clear hfz15_6
                          try clear hfz15_7
                          try clear hfz17_0
                          try clear hfz17_1
                          try clear hfz17_2
                          try clear hfz17_3
                          try clear hfz17_4
                          try clear hfz17_5
                          try clear hfz17_6
                          try clear hfz17_7
                          try clear hfz22_0
                          try clear hfz22_1
                          try clear hfz22_2
                          try clear hfz22_3
                          try clear hfz22_4
                          try clear hfz22_5
                          try clear hfz22_6
                          try clear hfz22_7
                          try clear hfz23_0
                          try clear hfz23_1
                          try clear hfz23_10
                          try clear hfz23_11
                          try clear hfz23_12
                          try clear hfz23_13
                          try clear hfz23_14
                          try clear hfz23_15
                          try clear hfz23_16
                          try clear hfz23_17
                          try clear hfz23_18
                          try clear hfz23_19
                          try clear hfz23_2
                          try clear hfz23_3
                          try clear hfz23_4
                          try clear hfz23_5
                          try clear hfz23_6
                          try clear hfz23_7
                          try clear hfz23_8
                          try clear hfz23_9
                          try clear hfz25_0
                          try clear hfz25_1
                          try clear hfz25_2
                          try clear hfz25_3
                          try clear hfz25_4
                          try clear hfz25_5
                          try clear hfz25_6
                          try clear hfz25_7
                          try clear hfz30_0
                          try clear hfz30_1
                          try clear hfz30_2
                          try clear hfz30_3
                          try clear hfz30_4
                          try clear hfz30_5
                          try clear hfz30_6
                          try clear hfz30_7
                          try clear hfz32_0
                          try clear hfz32_1
                          try clear hfz32_2
                          try clear hfz32_3
                          try clear hfz32_4
                          try clear hfz32_5
                          try clear hfz32_6
                          try clear hfz32_7
                          try clear hfz33_0
                          try clear hfz33_1
                          try clear hfz33_10
                          try clear hfz33_11
                          try clear hfz33_12
                          try clear hfz33_13
                          try clear hfz33_14
                          try clear hfz33_15
                          try clear hfz33_16
                          try clear hfz33_17
                          try clear hfz33_18
                          try clear hfz33_19
                          try clear hfz33_2
                          try clear hfz33_3
                          try clear hfz33_4
                          try clear hfz33_5
                          try clear hfz33_6
                          try clear hfz33_7
                          try clear hfz33_8
                          try clear hfz33_9
                          try clear hfz38_0
                          try clear hfz38_1
                          try clear hfz38_10
                          try clear hfz38_11
                          try clear hfz38_12
                          try clear hfz38_13
                          try clear hfz38_14
                          try clear hfz38_15
                          try clear hfz38_16
                          try clear hfz38_17
                          try clear hfz38_18
                          try clear hfz38_19
                          try clear hfz38_2
                          try clear hfz38_3
                          try clear hfz38_4
                          try clear hfz38_5
                          try clear hfz38_6
                          try clear hfz38_7
                          try clear hfz38_8
                          try clear hfz38_9
                          try clear hfz9_0
                          try clear hfz9_1
                          try clear hfz9_2
                          try clear hfz9_3
                          try clear hfz9_4
                          try clear hfz9_5
                          try clear hfz9_6
                          try clear hfz9_7
                          try clear p2
                          obtain ⟨kq, x43_34, rfl, HA, HJ34, BK116, BK117, HB⟩ := hcut
                          cases kq with
                          | zero => exact absurd HA.out (by simp [session_refuse.j4])
                          | succ kj34 =>
                            have H := HA.out
                            clear HA
                            simp only [session_refuse.j4] at H
                            by_cases c39 : x43_34 = true
                            · subst c39
                              have H1 : (some 315) = some r := by rw [if_pos rfl] at H; exact H
                              clear H
                              have H := H1
                              clear H1
                              obtain rfl := Option.some.inj H
                              go_wp2
                              go_ret
                              exact ⟨by first | rfl | (simp [errW_none, errW_some] <;> rfl) | (simp [*, errW_none, errW_some] <;> rfl), by repeat (first | (with_reducible first | exact HB.out | apply below_alloc | apply pw_below_drewN | apply below_drew1 | refine below_set ?_ GE116.out | refine below_set ?_ GE117.out) | exact HB.out)⟩
                            · replace c39 := Bool.eq_false_iff.mpr c39
                              subst c39
                              have H1 : (if x7_3 = true then (session_refuse.j5 kj34 a1 (a2_2 == 0) a2_0 a2_1 a2_2 a2_3 a2_4 a2_5 a2_6 a2_7) else (session_refuse.j5 kj34 a1 false a2_0 a2_1 a2_2 a2_3 a2_4 a2_5 a2_6 a2_7)) = some r := by rw [if_neg (show ¬ (false = true) by decide)] at H; exact H
                              clear H
                              have H := H1
                              clear H1
                              have HC40 := Aside0.mk H
                              clear H
                              go_upto_region 10 with (fail)
                              go_cut [49] (fun v49 wc => ∃ (kq : Nat) (x49_39 : Bool), v49 = .bool x49_39 ∧ Aside0 (session_refuse.j5 kq a1 x49_39 a2_0 a2_1 a2_2 a2_3 a2_4 a2_5 a2_6 a2_7 = some r) ∧ Aside0 (kq ≤ kj34) ∧ Aside0 (wc.heap[gb116]? = some (.cells #[.int .i64 a0_0, .int .u64 a0_1, .bool a0_2, .int .u64 a0_3, .int .i64 a0_4, .bool a0_5, .int .u32 a0_6, .int .i64 a0_7, .int .i64 a0_8, .int .i64 a0_9, .int .i64 a0_10, .int .i64 a0_11, .int .i64 a0_12, .int .i64 a0_13, .int .i64 a0_14, .int .i64 a0_15, .int .i64 a0_16, (.slice A0_17 l0_17.length c0_17), (.slice A0_18 l0_18.length c0_18), (.slice A0_19 l0_19.length c0_19)] 33 (0, 0))) ∧ Aside0 (wc.heap[gb117]? = some (.cells #[.int .i64 a2_0, .bool a2_1, .int .u32 a2_2, .int .i64 a2_3, .int .i64 a2_4, .int .i64 a2_5, .int .i64 a2_6, .int .i64 a2_7] 27 (0, 0))) ∧ Aside0 (Below w.heap.size w wc))
                              case first =>
                                have H := HC40.out
                                clear HC40
                                by_cases c41 : x7_3 = true
                                · subst c41
                                  have H1 : (session_refuse.j5 kj34 a1 (a2_2 == 0) a2_0 a2_1 a2_2 a2_3 a2_4 a2_5 a2_6 a2_7) = some r := by rw [if_pos rfl] at H; exact H
                                  clear H
                                  have H := H1
                                  clear H1
                                  have H' := Aside0.mk H
                                  clear H
                                  have hnb42 := NB117_116.out
                                  have hnc42 := NB116_117.out
                                  have hcz43_0 : wc.cell? ⟨gb117, 0, none⟩ = some (.int .i64 a2_0) := (blk_cell BK117.out 0).trans rfl
                                  have hcz43_1 : wc.cell? ⟨gb117, 1, none⟩ = some (.bool a2_1) := (blk_cell BK117.out 1).trans rfl
                                  have hcz43_2 : wc.cell? ⟨gb117, 2, none⟩ = some (.int .u32 a2_2) := (blk_cell BK117.out 2).trans rfl
                                  have hcz43_3 : wc.cell? ⟨gb117, 3, none⟩ = some (.int .i64 a2_3) := (blk_cell BK117.out 3).trans rfl
                                  have hcz43_4 : wc.cell? ⟨gb117, 4, none⟩ = some (.int .i64 a2_4) := (blk_cell BK117.out 4).trans rfl
                                  have hcz43_5 : wc.cell? ⟨gb117, 5, none⟩ = some (.int .i64 a2_5) := (blk_cell BK117.out 5).trans rfl
                                  have hcz43_6 : wc.cell? ⟨gb117, 6, none⟩ = some (.int .i64 a2_6) := (blk_cell BK117.out 6).trans rfl
                                  have hcz43_7 : wc.cell? ⟨gb117, 7, none⟩ = some (.int .i64 a2_7) := (blk_cell BK117.out 7).trans rfl
                                  have hfz43_0 := blk_frozen BK117.out 0
                                  have hfz43_1 := blk_frozen BK117.out 1
                                  have hfz43_2 := blk_frozen BK117.out 2
                                  have hfz43_3 := blk_frozen BK117.out 3
                                  have hfz43_4 := blk_frozen BK117.out 4
                                  have hfz43_5 := blk_frozen BK117.out 5
                                  have hfz43_6 := blk_frozen BK117.out 6
                                  have hfz43_7 := blk_frozen BK117.out 7
                                  go_wp2
                                  go_meet
                                  case rel => exact ⟨_, ((a2_2 == 0)), (by first | rfl | (simp; done) | (simp [*]; done)), H', ⟨by have := HJ3.out; have := HJ11.out; have := HJ18.out; have := HJ26.out; have := HJ34.out; first | omega | exact Nat.le_refl _⟩, ⟨by (with_reducible repeat (first | refine blk_drewN ?_ _ | refine blk_drew ?_ | refine blk_alloc ?_ _)); exact BK116.out⟩, ⟨by (with_reducible repeat (first | refine blk_drewN ?_ _ | refine blk_drew ?_ | refine blk_alloc ?_ _)); exact BK117.out⟩, ⟨by repeat (first | (with_reducible first | exact HB.out | apply below_alloc | apply pw_below_drewN | apply below_drew1 | refine below_set ?_ GE116.out | refine below_set ?_ GE117.out) | exact HB.out)⟩⟩
                                · replace c41 := Bool.eq_false_iff.mpr c41
                                  subst c41
                                  have H1 : (session_refuse.j5 kj34 a1 false a2_0 a2_1 a2_2 a2_3 a2_4 a2_5 a2_6 a2_7) = some r := by rw [if_neg (show ¬ (false = true) by decide)] at H; exact H
                                  clear H
                                  have H := H1
                                  clear H1
                                  have H' := Aside0.mk H
                                  clear H
                                  go_wp2
                                  go_meet
                                  case rel => exact ⟨_, (false), (by first | rfl | (simp; done) | (simp [*]; done)), H', ⟨by have := HJ3.out; have := HJ11.out; have := HJ18.out; have := HJ26.out; have := HJ34.out; first | omega | exact Nat.le_refl _⟩, ⟨by (with_reducible repeat (first | refine blk_drewN ?_ _ | refine blk_drew ?_ | refine blk_alloc ?_ _)); exact BK116.out⟩, ⟨by (with_reducible repeat (first | refine blk_drewN ?_ _ | refine blk_drew ?_ | refine blk_alloc ?_ _)); exact BK117.out⟩, ⟨by repeat (first | (with_reducible first | exact HB.out | apply below_alloc | apply pw_below_drewN | apply below_drew1 | refine below_set ?_ GE116.out | refine below_set ?_ GE117.out) | exact HB.out)⟩⟩
                              case rest =>
                                clear HC40
                                try clear c1
                                try clear c2
                                try clear p2
                                try clear c3
                                try clear c4
                                try clear c7
                                try clear c7b0
                                try clear c7b1
                                try clear c8
                                try clear c10
                                try clear c13
                                try clear c13b0
                                try clear c14
                                try clear c16
                                try clear c18
                                try clear c20
                                try clear c20b0
                                try clear c20b1
                                try clear c21
                                try clear c24
                                try clear c26
                                try clear c28
                                try clear c28b0
                                try clear c28b1
                                try clear c29
                                try clear c31
                                try clear c34
                                try clear c36
                                try clear c37
                                try clear c39
                                try clear c41
                                try clear c42
                                try clear hcz11_0
                                try clear hcz11_1
                                try clear hcz11_2
                                try clear hcz11_3
                                try clear hcz11_4
                                try clear hcz11_5
                                try clear hcz11_6
                                try clear hcz11_7
                                try clear hcz15_0
                                try clear hcz15_1
                                try clear hcz15_2
                                try clear hcz15_3
                                try clear hcz15_4
                                try clear hcz15_5
                                try clear hcz15_6
                                try clear hcz15_7
                                try clear hcz17_0
                                try clear hcz17_1
                                try clear hcz17_2
                                try clear hcz17_3
                                try clear hcz17_4
                                try clear hcz17_5
                                try clear hcz17_6
                                try clear hcz17_7
                                try clear hcz22_0
                                try clear hcz22_1
                                try clear hcz22_2
                                try clear hcz22_3
                                try clear hcz22_4
                                try clear hcz22_5
                                try clear hcz22_6
                                try clear hcz22_7
                                try clear hcz23_0
                                try clear hcz23_1
                                try clear hcz23_10
                                try clear hcz23_11
                                try clear hcz23_12
                                try clear hcz23_13
                                try clear hcz23_14
                                try clear hcz23_15
                                try clear hcz23_16
                                try clear hcz23_17
                                try clear hcz23_18
                                try clear hcz23_19
                                try clear hcz23_2
                                try clear hcz23_3
                                try clear hcz23_4
                                try clear hcz23_5
                                try clear hcz23_6
                                try clear hcz23_7
                                try clear hcz23_8
                                try clear hcz23_9
                                try clear hcz25_0
                                try clear hcz25_1
                                try clear hcz25_2
                                try clear hcz25_3
                                try clear hcz25_4
                                try clear hcz25_5
                                try clear hcz25_6
                                try clear hcz25_7
                                try clear hcz30_0
                                try clear hcz30_1
                                try clear hcz30_2
                                try clear hcz30_3
                                try clear hcz30_4
                                try clear hcz30_5
                                try clear hcz30_6
                                try clear hcz30_7
                                try clear hcz32_0
                                try clear hcz32_1
                                try clear hcz32_2
                                try clear hcz32_3
                                try clear hcz32_4
                                try clear hcz32_5
                                try clear hcz32_6
                                try clear hcz32_7
                                try clear hcz33_0
                                try clear hcz33_1
                                try clear hcz33_10
                                try clear hcz33_11
                                try clear hcz33_12
                                try clear hcz33_13
                                try clear hcz33_14
                                try clear hcz33_15
                                try clear hcz33_16
                                try clear hcz33_17
                                try clear hcz33_18
                                try clear hcz33_19
                                try clear hcz33_2
                                try clear hcz33_3
                                try clear hcz33_4
                                try clear hcz33_5
                                try clear hcz33_6
                                try clear hcz33_7
                                try clear hcz33_8
                                try clear hcz33_9
                                try clear hcz38_0
                                try clear hcz38_1
                                try clear hcz38_10
                                try clear hcz38_11
                                try clear hcz38_12
                                try clear hcz38_13
                                try clear hcz38_14
                                try clear hcz38_15
                                try clear hcz38_16
                                try clear hcz38_17
                                try clear hcz38_18
                                try clear hcz38_19
                                try clear hcz38_2
                                try clear hcz38_3
                                try clear hcz38_4
                                try clear hcz38_5
                                try clear hcz38_6
                                try clear hcz38_7
                                try clear hcz38_8
                                try clear hcz38_9
                                try clear hcz43_0
                                try clear hcz43_1
                                try clear hcz43_2
                                try clear hcz43_3
                                try clear hcz43_4
                                try clear hcz43_5
                                try clear hcz43_6
                                try clear hcz43_7
                                try clear hcz9_0
                                try clear hcz9_1
                                try clear hcz9_2
                                try clear hcz9_3
                                try clear hcz9_4
                                try clear hcz9_5
                                try clear hcz9_6
                                try clear hcz9_7
                                try clear hfz11_0
                                try clear hfz11_1
                                try clear hfz11_2
                                try clear hfz11_3
                                try clear hfz11_4
                                try clear hfz11_5
                                try clear hfz11_6
                                try clear hfz11_7
                                try clear hfz15_0
                                try clear hfz15_1
                                try clear hfz15_2
                                try clear hfz15_3
                                try clear hfz15_4
                                try clear hfz15_5
                                try clear hfz15_6
                                try clear hfz15_7
                                try clear hfz17_0
                                try clear hfz17_1
                                try clear hfz17_2
                                try clear hfz17_3
                                try clear hfz17_4
                                try clear hfz17_5
                                try clear hfz17_6
                                try clear hfz17_7
                                try clear hfz22_0
                                try clear hfz22_1
                                try clear hfz22_2
                                try clear hfz22_3
                                try clear hfz22_4
                                try clear hfz22_5
                                try clear hfz22_6
                                try clear hfz22_7
                                try clear hfz23_0
                                try clear hfz23_1
                                try clear hfz23_10
                                try clear hfz23_11
                                try clear hfz23_12
                                try clear hfz23_13
                                try clear hfz23_14
                                try clear hfz23_15
                                try clear hfz23_16
                                try clear hfz23_17
                                try clear hfz23_18
                                try clear hfz23_19
                                try clear hfz23_2
                                try clear hfz23_3
                                try clear hfz23_4
                                try clear hfz23_5
                                try clear hfz23_6
                                try clear hfz23_7
                                try clear hfz23_8
                                try clear hfz23_9
                                try clear hfz25_0
                                try clear hfz25_1
                                try clear hfz25_2
                                try clear hfz25_3
                                try clear hfz25_4
                                try clear hfz25_5
                                try clear hfz25_6
                                try clear hfz25_7
                                try clear hfz30_0
                                try clear hfz30_1
                                try clear hfz30_2
                                try clear hfz30_3
                                try clear hfz30_4
                                try clear hfz30_5
                                try clear hfz30_6
                                try clear hfz30_7
                                try clear hfz32_0
                                try clear hfz32_1
                                try clear hfz32_2
                                try clear hfz32_3
                                try clear hfz32_4
                                try clear hfz32_5
                                try clear hfz32_6
                                try clear hfz32_7
                                try clear hfz33_0
                                try clear hfz33_1
                                try clear hfz33_10
                                try clear hfz33_11
                                try clear hfz33_12
                                try clear hfz33_13
                                try clear hfz33_14
                                try clear hfz33_15
                                try clear hfz33_16
                                try clear hfz33_17
                                try clear hfz33_18
                                try clear hfz33_19
                                try clear hfz33_2
                                try clear hfz33_3
                                try clear hfz33_4
                                try clear hfz33_5
                                try clear hfz33_6
                                try clear hfz33_7
                                try clear hfz33_8
                                try clear hfz33_9
                                try clear hfz38_0
                                try clear hfz38_1
                                try clear hfz38_10
                                try clear hfz38_11
                                try clear hfz38_12
                                try clear hfz38_13
                                try clear hfz38_14
                                try clear hfz38_15
                                try clear hfz38_16
                                try clear hfz38_17
                                try clear hfz38_18
                                try clear hfz38_19
                                try clear hfz38_2
                                try clear hfz38_3
                                try clear hfz38_4
                                try clear hfz38_5
                                try clear hfz38_6
                                try clear hfz38_7
                                try clear hfz38_8
                                try clear hfz38_9
                                try clear hfz43_0
                                try clear hfz43_1
                                try clear hfz43_2
                                try clear hfz43_3
                                try clear hfz43_4
                                try clear hfz43_5
                                try clear hfz43_6
                                try clear hfz43_7
                                try clear hfz9_0
                                try clear hfz9_1
                                try clear hfz9_2
                                try clear hfz9_3
                                try clear hfz9_4
                                try clear hfz9_5
                                try clear hfz9_6
                                try clear hfz9_7
                                try clear p2
                                obtain ⟨kq, x49_39, rfl, HA, HJ39, BK116, BK117, HB⟩ := hcut
                                cases kq with
                                | zero => exact absurd HA.out (by simp [session_refuse.j5])
                                | succ kj39 =>
                                  have H := HA.out
                                  clear HA
                                  simp only [session_refuse.j5] at H
                                  by_cases c44 : x49_39 = true
                                  · subst c44
                                    have H1 : (some 2) = some r := by rw [if_pos rfl] at H; exact H
                                    clear H
                                    have H := H1
                                    clear H1
                                    obtain rfl := Option.some.inj H
                                    go_wp2
                                    go_ret
                                    exact ⟨by first | rfl | (simp [errW_none, errW_some] <;> rfl) | (simp [*, errW_none, errW_some] <;> rfl), by repeat (first | (with_reducible first | exact HB.out | apply below_alloc | apply pw_below_drewN | apply below_drew1 | refine below_set ?_ GE116.out | refine below_set ?_ GE117.out) | exact HB.out)⟩
                                  · replace c44 := Bool.eq_false_iff.mpr c44
                                    subst c44
                                    have H1 : (if a2_0 = 2 then ((key_Check.f a1 a2_3 a2_4 a2_5 a2_6).bind fun t118 => (session_refuse.j6 kj39 (t118 != 0) a2_0 a2_1 a2_2 a2_3 a2_4 a2_5 a2_6 a2_7)) else (session_refuse.j6 kj39 false a2_0 a2_1 a2_2 a2_3 a2_4 a2_5 a2_6 a2_7)) = some r := by rw [if_neg (show ¬ (false = true) by decide)] at H; exact H
                                    clear H
                                    have H := H1
                                    clear H1
                                    have HC45 := Aside0.mk H
                                    clear H
                                    go_upto_region 12 with (fail)
                                    go_cut [56] (fun v56 wc => ∃ (kq : Nat) (x56_44 : Bool), v56 = .bool x56_44 ∧ Aside0 (session_refuse.j6 kq x56_44 a2_0 a2_1 a2_2 a2_3 a2_4 a2_5 a2_6 a2_7 = some r) ∧ Aside0 (kq ≤ kj39) ∧ Aside0 (wc.heap[gb116]? = some (.cells #[.int .i64 a0_0, .int .u64 a0_1, .bool a0_2, .int .u64 a0_3, .int .i64 a0_4, .bool a0_5, .int .u32 a0_6, .int .i64 a0_7, .int .i64 a0_8, .int .i64 a0_9, .int .i64 a0_10, .int .i64 a0_11, .int .i64 a0_12, .int .i64 a0_13, .int .i64 a0_14, .int .i64 a0_15, .int .i64 a0_16, (.slice A0_17 l0_17.length c0_17), (.slice A0_18 l0_18.length c0_18), (.slice A0_19 l0_19.length c0_19)] 33 (0, 0))) ∧ Aside0 (wc.heap[gb117]? = some (.cells #[.int .i64 a2_0, .bool a2_1, .int .u32 a2_2, .int .i64 a2_3, .int .i64 a2_4, .int .i64 a2_5, .int .i64 a2_6, .int .i64 a2_7] 27 (0, 0))) ∧ Aside0 (Below w.heap.size w wc))
                                    case first =>
                                      have H := HC45.out
                                      clear HC45
                                      by_cases c46 : a2_0 = 2
                                      · rw [if_pos c46] at H
                                        have c46b0 : (a2_0 == 2) = true := beq_iff_eq.mpr c46
                                        have c46b1 : (a2_0 != 2) = false := bne_eq_false_iff_eq.mpr c46
                                        clear c46
                                        (first | rw [c46b0] | (simp only [i64_w, i32_w]; rw [c46b0]) | skip)
                                        replace H := Option.bind_eq_some_iff.mp H
                                        obtain ⟨t118, A470, H⟩ := H
                                        replace H : (session_refuse.j6 kj39 (t118 != 0) a2_0 a2_1 a2_2 a2_3 a2_4 a2_5 a2_6 a2_7) = some r := H
                                        have A47 := Aside0.mk A470
                                        clear A470
                                        have H' := Aside0.mk H
                                        clear H
                                        have hnb48 := NB117_116.out
                                        have hnc48 := NB116_117.out
                                        have hcz49_0 : wc.cell? ⟨gb117, 0, none⟩ = some (.int .i64 a2_0) := (blk_cell BK117.out 0).trans rfl
                                        have hcz49_1 : wc.cell? ⟨gb117, 1, none⟩ = some (.bool a2_1) := (blk_cell BK117.out 1).trans rfl
                                        have hcz49_2 : wc.cell? ⟨gb117, 2, none⟩ = some (.int .u32 a2_2) := (blk_cell BK117.out 2).trans rfl
                                        have hcz49_3 : wc.cell? ⟨gb117, 3, none⟩ = some (.int .i64 a2_3) := (blk_cell BK117.out 3).trans rfl
                                        have hcz49_4 : wc.cell? ⟨gb117, 4, none⟩ = some (.int .i64 a2_4) := (blk_cell BK117.out 4).trans rfl
                                        have hcz49_5 : wc.cell? ⟨gb117, 5, none⟩ = some (.int .i64 a2_5) := (blk_cell BK117.out 5).trans rfl
                                        have hcz49_6 : wc.cell? ⟨gb117, 6, none⟩ = some (.int .i64 a2_6) := (blk_cell BK117.out 6).trans rfl
                                        have hcz49_7 : wc.cell? ⟨gb117, 7, none⟩ = some (.int .i64 a2_7) := (blk_cell BK117.out 7).trans rfl
                                        have hfz49_0 := blk_frozen BK117.out 0
                                        have hfz49_1 := blk_frozen BK117.out 1
                                        have hfz49_2 := blk_frozen BK117.out 2
                                        have hfz49_3 := blk_frozen BK117.out 3
                                        have hfz49_4 := blk_frozen BK117.out 4
                                        have hfz49_5 := blk_frozen BK117.out 5
                                        have hfz49_6 := blk_frozen BK117.out 6
                                        have hfz49_7 := blk_frozen BK117.out 7
                                        go_wp2_with (first | (go_at_call 55; (with_reducible refine (key_Check.calls a1 a2_3 a2_4 a2_5 a2_6 t118 _ A47.out).mono ?_); rintro e w50 ⟨rfl, hb⟩; have n0_ := Aside0.mk (blk_below (g := gb116) (o := .cells #[.int .i64 a0_0, .int .u64 a0_1, .bool a0_2, .int .u64 a0_3, .int .i64 a0_4, .bool a0_5, .int .u32 a0_6, .int .i64 a0_7, .int .i64 a0_8, .int .i64 a0_9, .int .i64 a0_10, .int .i64 a0_11, .int .i64 a0_12, .int .i64 a0_13, .int .i64 a0_14, .int .i64 a0_15, .int .i64 a0_16, .slice A0_17 l0_17.length c0_17, .slice A0_18 l0_18.length c0_18, .slice A0_19 l0_19.length c0_19] 33 (0, 0)) (by (with_reducible repeat (first | refine blk_drewN ?_ _ | refine blk_drew ?_ | refine blk_alloc ?_ _)); exact BK116.out) hb); have n1_ := Aside0.mk (blk_below (g := gb117) (o := .cells #[.int .i64 a2_0, .bool a2_1, .int .u32 a2_2, .int .i64 a2_3, .int .i64 a2_4, .int .i64 a2_5, .int .i64 a2_6, .int .i64 a2_7] 27 (0, 0)) (by (with_reducible repeat (first | refine blk_drewN ?_ _ | refine blk_drew ?_ | refine blk_alloc ?_ _)); exact BK117.out) hb); have n2_ := Aside0.mk (below_step (by repeat (first | (with_reducible first | exact HB.out | apply below_alloc | apply pw_below_drewN | apply below_drew1 | refine below_set ?_ GE116.out | refine below_set ?_ GE117.out) | exact HB.out)) hb); clear BK116; clear BK117; clear HB; have BK116 := n0_; have BK117 := n1_; have HB := n2_; clear n0_ n1_ n2_; (try clear hb); (try clear hb2); (try clear hk); (try clear hi)))
                                        go_meet
                                        case rel => exact ⟨_, ((t118 != 0)), (by first | rfl | (simp; done) | (simp [*]; done)), H', ⟨by have := HJ3.out; have := HJ11.out; have := HJ18.out; have := HJ26.out; have := HJ34.out; have := HJ39.out; first | omega | exact Nat.le_refl _⟩, ⟨by (with_reducible repeat (first | refine blk_drewN ?_ _ | refine blk_drew ?_ | refine blk_alloc ?_ _)); exact BK116.out⟩, ⟨by (with_reducible repeat (first | refine blk_drewN ?_ _ | refine blk_drew ?_ | refine blk_alloc ?_ _)); exact BK117.out⟩, ⟨by repeat (first | (with_reducible first | exact HB.out | apply below_alloc | apply pw_below_drewN | apply below_drew1 | refine below_set ?_ GE116.out | refine below_set ?_ GE117.out) | exact HB.out)⟩⟩
                                      · rw [if_neg c46] at H
                                        have c46b0 : (a2_0 == 2) = false := beq_eq_false_iff_ne.mpr c46
                                        have c46b1 : (a2_0 != 2) = true := bne_iff_ne.mpr c46
                                        (first | rw [c46b0] | (simp only [i64_w, i32_w]; rw [c46b0]) | skip)
                                        have H' := Aside0.mk H
                                        clear H
                                        have hnb51 := NB117_116.out
                                        have hnc51 := NB116_117.out
                                        have hcz52_0 : wc.cell? ⟨gb117, 0, none⟩ = some (.int .i64 a2_0) := (blk_cell BK117.out 0).trans rfl
                                        have hcz52_1 : wc.cell? ⟨gb117, 1, none⟩ = some (.bool a2_1) := (blk_cell BK117.out 1).trans rfl
                                        have hcz52_2 : wc.cell? ⟨gb117, 2, none⟩ = some (.int .u32 a2_2) := (blk_cell BK117.out 2).trans rfl
                                        have hcz52_3 : wc.cell? ⟨gb117, 3, none⟩ = some (.int .i64 a2_3) := (blk_cell BK117.out 3).trans rfl
                                        have hcz52_4 : wc.cell? ⟨gb117, 4, none⟩ = some (.int .i64 a2_4) := (blk_cell BK117.out 4).trans rfl
                                        have hcz52_5 : wc.cell? ⟨gb117, 5, none⟩ = some (.int .i64 a2_5) := (blk_cell BK117.out 5).trans rfl
                                        have hcz52_6 : wc.cell? ⟨gb117, 6, none⟩ = some (.int .i64 a2_6) := (blk_cell BK117.out 6).trans rfl
                                        have hcz52_7 : wc.cell? ⟨gb117, 7, none⟩ = some (.int .i64 a2_7) := (blk_cell BK117.out 7).trans rfl
                                        have hfz52_0 := blk_frozen BK117.out 0
                                        have hfz52_1 := blk_frozen BK117.out 1
                                        have hfz52_2 := blk_frozen BK117.out 2
                                        have hfz52_3 := blk_frozen BK117.out 3
                                        have hfz52_4 := blk_frozen BK117.out 4
                                        have hfz52_5 := blk_frozen BK117.out 5
                                        have hfz52_6 := blk_frozen BK117.out 6
                                        have hfz52_7 := blk_frozen BK117.out 7
                                        go_wp2
                                        go_meet
                                        case rel => exact ⟨_, (false), (by first | rfl | (simp; done) | (simp [*]; done)), H', ⟨by have := HJ3.out; have := HJ11.out; have := HJ18.out; have := HJ26.out; have := HJ34.out; have := HJ39.out; first | omega | exact Nat.le_refl _⟩, ⟨by (with_reducible repeat (first | refine blk_drewN ?_ _ | refine blk_drew ?_ | refine blk_alloc ?_ _)); exact BK116.out⟩, ⟨by (with_reducible repeat (first | refine blk_drewN ?_ _ | refine blk_drew ?_ | refine blk_alloc ?_ _)); exact BK117.out⟩, ⟨by repeat (first | (with_reducible first | exact HB.out | apply below_alloc | apply pw_below_drewN | apply below_drew1 | refine below_set ?_ GE116.out | refine below_set ?_ GE117.out) | exact HB.out)⟩⟩
                                    case rest =>
                                      clear HC45
                                      try clear c1
                                      try clear c2
                                      try clear p2
                                      try clear c3
                                      try clear c4
                                      try clear c5
                                      try clear c7
                                      try clear c7b0
                                      try clear c7b1
                                      try clear c8
                                      try clear c10
                                      try clear c13
                                      try clear c13b0
                                      try clear c14
                                      try clear c16
                                      try clear c18
                                      try clear c20
                                      try clear c20b0
                                      try clear c20b1
                                      try clear c21
                                      try clear c24
                                      try clear c26
                                      try clear c28
                                      try clear c28b0
                                      try clear c28b1
                                      try clear c29
                                      try clear c31
                                      try clear c34
                                      try clear c36
                                      try clear c37
                                      try clear c39
                                      try clear c41
                                      try clear c42
                                      try clear c44
                                      try clear c46
                                      try clear c46b0
                                      try clear c46b1
                                      try clear c48
                                      try clear c51
                                      try clear hcz11_0
                                      try clear hcz11_1
                                      try clear hcz11_2
                                      try clear hcz11_3
                                      try clear hcz11_4
                                      try clear hcz11_5
                                      try clear hcz11_6
                                      try clear hcz11_7
                                      try clear hcz15_0
                                      try clear hcz15_1
                                      try clear hcz15_2
                                      try clear hcz15_3
                                      try clear hcz15_4
                                      try clear hcz15_5
                                      try clear hcz15_6
                                      try clear hcz15_7
                                      try clear hcz17_0
                                      try clear hcz17_1
                                      try clear hcz17_2
                                      try clear hcz17_3
                                      try clear hcz17_4
                                      try clear hcz17_5
                                      try clear hcz17_6
                                      try clear hcz17_7
                                      try clear hcz22_0
                                      try clear hcz22_1
                                      try clear hcz22_2
                                      try clear hcz22_3
                                      try clear hcz22_4
                                      try clear hcz22_5
                                      try clear hcz22_6
                                      try clear hcz22_7
                                      try clear hcz23_0
                                      try clear hcz23_1
                                      try clear hcz23_10
                                      try clear hcz23_11
                                      try clear hcz23_12
                                      try clear hcz23_13
                                      try clear hcz23_14
                                      try clear hcz23_15
                                      try clear hcz23_16
                                      try clear hcz23_17
                                      try clear hcz23_18
                                      try clear hcz23_19
                                      try clear hcz23_2
                                      try clear hcz23_3
                                      try clear hcz23_4
                                      try clear hcz23_5
                                      try clear hcz23_6
                                      try clear hcz23_7
                                      try clear hcz23_8
                                      try clear hcz23_9
                                      try clear hcz25_0
                                      try clear hcz25_1
                                      try clear hcz25_2
                                      try clear hcz25_3
                                      try clear hcz25_4
                                      try clear hcz25_5
                                      try clear hcz25_6
                                      try clear hcz25_7
                                      try clear hcz30_0
                                      try clear hcz30_1
                                      try clear hcz30_2
                                      try clear hcz30_3
                                      try clear hcz30_4
                                      try clear hcz30_5
                                      try clear hcz30_6
                                      try clear hcz30_7
                                      try clear hcz32_0
                                      try clear hcz32_1
                                      try clear hcz32_2
                                      try clear hcz32_3
                                      try clear hcz32_4
                                      try clear hcz32_5
                                      try clear hcz32_6
                                      try clear hcz32_7
                                      try clear hcz33_0
                                      try clear hcz33_1
                                      try clear hcz33_10
                                      try clear hcz33_11
                                      try clear hcz33_12
                                      try clear hcz33_13
                                      try clear hcz33_14
                                      try clear hcz33_15
                                      try clear hcz33_16
                                      try clear hcz33_17
                                      try clear hcz33_18
                                      try clear hcz33_19
                                      try clear hcz33_2
                                      try clear hcz33_3
                                      try clear hcz33_4
                                      try clear hcz33_5
                                      try clear hcz33_6
                                      try clear hcz33_7
                                      try clear hcz33_8
                                      try clear hcz33_9
                                      try clear hcz38_0
                                      try clear hcz38_1
                                      try clear hcz38_10
                                      try clear hcz38_11
                                      try clear hcz38_12
                                      try clear hcz38_13
                                      try clear hcz38_14
                                      try clear hcz38_15
                                      try clear hcz38_16
                                      try clear hcz38_17
                                      try clear hcz38_18
                                      try clear hcz38_19
                                      try clear hcz38_2
                                      try clear hcz38_3
                                      try clear hcz38_4
                                      try clear hcz38_5
                                      try clear hcz38_6
                                      try clear hcz38_7
                                      try clear hcz38_8
                                      try clear hcz38_9
                                      try clear hcz43_0
                                      try clear hcz43_1
                                      try clear hcz43_2
                                      try clear hcz43_3
                                      try clear hcz43_4
                                      try clear hcz43_5
                                      try clear hcz43_6
                                      try clear hcz43_7
                                      try clear hcz49_0
                                      try clear hcz49_1
                                      try clear hcz49_2
                                      try clear hcz49_3
                                      try clear hcz49_4
                                      try clear hcz49_5
                                      try clear hcz49_6
                                      try clear hcz49_7
                                      try clear hcz52_0
                                      try clear hcz52_1
                                      try clear hcz52_2
                                      try clear hcz52_3
                                      try clear hcz52_4
                                      try clear hcz52_5
                                      try clear hcz52_6
                                      try clear hcz52_7
                                      try clear hcz9_0
                                      try clear hcz9_1
                                      try clear hcz9_2
                                      try clear hcz9_3
                                      try clear hcz9_4
                                      try clear hcz9_5
                                      try clear hcz9_6
                                      try clear hcz9_7
                                      try clear hfz11_0
                                      try clear hfz11_1
                                      try clear hfz11_2
                                      try clear hfz11_3
                                      try clear hfz11_4
                                      try clear hfz11_5
                                      try clear hfz11_6
                                      try clear hfz11_7
                                      try clear hfz15_0
                                      try clear hfz15_1
                                      try clear hfz15_2
                                      try clear hfz15_3
                                      try clear hfz15_4
                                      try clear hfz15_5
                                      try clear hfz15_6
                                      try clear hfz15_7
                                      try clear hfz17_0
                                      try clear hfz17_1
                                      try clear hfz17_2
                                      try clear hfz17_3
                                      try clear hfz17_4
                                      try clear hfz17_5
                                      try clear hfz17_6
                                      try clear hfz17_7
                                      try clear hfz22_0
                                      try clear hfz22_1
                                      try clear hfz22_2
                                      try clear hfz22_3
                                      try clear hfz22_4
                                      try clear hfz22_5
                                      try clear hfz22_6
                                      try clear hfz22_7
                                      try clear hfz23_0
                                      try clear hfz23_1
                                      try clear hfz23_10
                                      try clear hfz23_11
                                      try clear hfz23_12
                                      try clear hfz23_13
                                      try clear hfz23_14
                                      try clear hfz23_15
                                      try clear hfz23_16
                                      try clear hfz23_17
                                      try clear hfz23_18
                                      try clear hfz23_19
                                      try clear hfz23_2
                                      try clear hfz23_3
                                      try clear hfz23_4
                                      try clear hfz23_5
                                      try clear hfz23_6
                                      try clear hfz23_7
                                      try clear hfz23_8
                                      try clear hfz23_9
                                      try clear hfz25_0
                                      try clear hfz25_1
                                      try clear hfz25_2
                                      try clear hfz25_3
                                      try clear hfz25_4
                                      try clear hfz25_5
                                      try clear hfz25_6
                                      try clear hfz25_7
                                      try clear hfz30_0
                                      try clear hfz30_1
                                      try clear hfz30_2
                                      try clear hfz30_3
                                      try clear hfz30_4
                                      try clear hfz30_5
                                      try clear hfz30_6
                                      try clear hfz30_7
                                      try clear hfz32_0
                                      try clear hfz32_1
                                      try clear hfz32_2
                                      try clear hfz32_3
                                      try clear hfz32_4
                                      try clear hfz32_5
                                      try clear hfz32_6
                                      try clear hfz32_7
                                      try clear hfz33_0
                                      try clear hfz33_1
                                      try clear hfz33_10
                                      try clear hfz33_11
                                      try clear hfz33_12
                                      try clear hfz33_13
                                      try clear hfz33_14
                                      try clear hfz33_15
                                      try clear hfz33_16
                                      try clear hfz33_17
                                      try clear hfz33_18
                                      try clear hfz33_19
                                      try clear hfz33_2
                                      try clear hfz33_3
                                      try clear hfz33_4
                                      try clear hfz33_5
                                      try clear hfz33_6
                                      try clear hfz33_7
                                      try clear hfz33_8
                                      try clear hfz33_9
                                      try clear hfz38_0
                                      try clear hfz38_1
                                      try clear hfz38_10
                                      try clear hfz38_11
                                      try clear hfz38_12
                                      try clear hfz38_13
                                      try clear hfz38_14
                                      try clear hfz38_15
                                      try clear hfz38_16
                                      try clear hfz38_17
                                      try clear hfz38_18
                                      try clear hfz38_19
                                      try clear hfz38_2
                                      try clear hfz38_3
                                      try clear hfz38_4
                                      try clear hfz38_5
                                      try clear hfz38_6
                                      try clear hfz38_7
                                      try clear hfz38_8
                                      try clear hfz38_9
                                      try clear hfz43_0
                                      try clear hfz43_1
                                      try clear hfz43_2
                                      try clear hfz43_3
                                      try clear hfz43_4
                                      try clear hfz43_5
                                      try clear hfz43_6
                                      try clear hfz43_7
                                      try clear hfz49_0
                                      try clear hfz49_1
                                      try clear hfz49_2
                                      try clear hfz49_3
                                      try clear hfz49_4
                                      try clear hfz49_5
                                      try clear hfz49_6
                                      try clear hfz49_7
                                      try clear hfz52_0
                                      try clear hfz52_1
                                      try clear hfz52_2
                                      try clear hfz52_3
                                      try clear hfz52_4
                                      try clear hfz52_5
                                      try clear hfz52_6
                                      try clear hfz52_7
                                      try clear hfz9_0
                                      try clear hfz9_1
                                      try clear hfz9_2
                                      try clear hfz9_3
                                      try clear hfz9_4
                                      try clear hfz9_5
                                      try clear hfz9_6
                                      try clear hfz9_7
                                      try clear p2
                                      obtain ⟨kq, x56_44, rfl, HA, HJ44, BK116, BK117, HB⟩ := hcut
                                      cases kq with
                                      | zero => exact absurd HA.out (by simp [session_refuse.j6])
                                      | succ kj44 =>
                                        have H := HA.out
                                        clear HA
                                        simp only [session_refuse.j6] at H
                                        by_cases c53 : x56_44 = true
                                        · subst c53
                                          have H1 : (some 314) = some r := by rw [if_pos rfl] at H; exact H
                                          clear H
                                          have H := H1
                                          clear H1
                                          obtain rfl := Option.some.inj H
                                          go_wp2
                                          go_ret
                                          exact ⟨by first | rfl | (simp [errW_none, errW_some] <;> rfl) | (simp [*, errW_none, errW_some] <;> rfl), by repeat (first | (with_reducible first | exact HB.out | apply below_alloc | apply pw_below_drewN | apply below_drew1 | refine below_set ?_ GE116.out | refine below_set ?_ GE117.out) | exact HB.out)⟩
                                        · replace c53 := Bool.eq_false_iff.mpr c53
                                          subst c53
                                          have H1 : (if a2_0 = 4 then ((key_Check.f 1 a2_3 a2_4 a2_5 a2_6).bind fun t119 => (if t119 = 0 then (some 0) else (some 314))) else (some 0)) = some r := by rw [if_neg (show ¬ (false = true) by decide)] at H; exact H
                                          clear H
                                          have H := H1
                                          clear H1
                                          by_cases c54 : a2_0 = 4
                                          · rw [if_pos c54] at H
                                            have c54b0 : (a2_0 == 4) = true := beq_iff_eq.mpr c54
                                            have c54b1 : (a2_0 != 4) = false := bne_eq_false_iff_eq.mpr c54
                                            clear c54
                                            replace H := Option.bind_eq_some_iff.mp H
                                            obtain ⟨t119, A550, H⟩ := H
                                            replace H : (if t119 = 0 then (some 0) else (some 314)) = some r := H
                                            have A55 := Aside0.mk A550
                                            clear A550
                                            by_cases c56 : t119 = 0
                                            · rw [if_pos c56] at H
                                              have c56b0 : (t119 == 0) = true := beq_iff_eq.mpr c56
                                              have c56b1 : (t119 != 0) = false := bne_eq_false_iff_eq.mpr c56
                                              clear c56
                                              obtain rfl := Option.some.inj H
                                              have hnb57 := NB117_116.out
                                              have hnc57 := NB116_117.out
                                              have hcz58_0 : wc.cell? ⟨gb117, 0, none⟩ = some (.int .i64 a2_0) := (blk_cell BK117.out 0).trans rfl
                                              have hcz58_1 : wc.cell? ⟨gb117, 1, none⟩ = some (.bool a2_1) := (blk_cell BK117.out 1).trans rfl
                                              have hcz58_2 : wc.cell? ⟨gb117, 2, none⟩ = some (.int .u32 a2_2) := (blk_cell BK117.out 2).trans rfl
                                              have hcz58_3 : wc.cell? ⟨gb117, 3, none⟩ = some (.int .i64 a2_3) := (blk_cell BK117.out 3).trans rfl
                                              have hcz58_4 : wc.cell? ⟨gb117, 4, none⟩ = some (.int .i64 a2_4) := (blk_cell BK117.out 4).trans rfl
                                              have hcz58_5 : wc.cell? ⟨gb117, 5, none⟩ = some (.int .i64 a2_5) := (blk_cell BK117.out 5).trans rfl
                                              have hcz58_6 : wc.cell? ⟨gb117, 6, none⟩ = some (.int .i64 a2_6) := (blk_cell BK117.out 6).trans rfl
                                              have hcz58_7 : wc.cell? ⟨gb117, 7, none⟩ = some (.int .i64 a2_7) := (blk_cell BK117.out 7).trans rfl
                                              have hfz58_0 := blk_frozen BK117.out 0
                                              have hfz58_1 := blk_frozen BK117.out 1
                                              have hfz58_2 := blk_frozen BK117.out 2
                                              have hfz58_3 := blk_frozen BK117.out 3
                                              have hfz58_4 := blk_frozen BK117.out 4
                                              have hfz58_5 := blk_frozen BK117.out 5
                                              have hfz58_6 := blk_frozen BK117.out 6
                                              have hfz58_7 := blk_frozen BK117.out 7
                                              go_wp2_with (first | (go_at_call 55; (with_reducible refine (key_Check.calls 1 a2_3 a2_4 a2_5 a2_6 t119 _ A55.out).mono ?_); rintro e w59 ⟨rfl, hb⟩; have n0_ := Aside0.mk (blk_below (g := gb116) (o := .cells #[.int .i64 a0_0, .int .u64 a0_1, .bool a0_2, .int .u64 a0_3, .int .i64 a0_4, .bool a0_5, .int .u32 a0_6, .int .i64 a0_7, .int .i64 a0_8, .int .i64 a0_9, .int .i64 a0_10, .int .i64 a0_11, .int .i64 a0_12, .int .i64 a0_13, .int .i64 a0_14, .int .i64 a0_15, .int .i64 a0_16, .slice A0_17 l0_17.length c0_17, .slice A0_18 l0_18.length c0_18, .slice A0_19 l0_19.length c0_19] 33 (0, 0)) (by (with_reducible repeat (first | refine blk_drewN ?_ _ | refine blk_drew ?_ | refine blk_alloc ?_ _)); exact BK116.out) hb); have n1_ := Aside0.mk (blk_below (g := gb117) (o := .cells #[.int .i64 a2_0, .bool a2_1, .int .u32 a2_2, .int .i64 a2_3, .int .i64 a2_4, .int .i64 a2_5, .int .i64 a2_6, .int .i64 a2_7] 27 (0, 0)) (by (with_reducible repeat (first | refine blk_drewN ?_ _ | refine blk_drew ?_ | refine blk_alloc ?_ _)); exact BK117.out) hb); have n2_ := Aside0.mk (below_step (by repeat (first | (with_reducible first | exact HB.out | apply below_alloc | apply pw_below_drewN | apply below_drew1 | refine below_set ?_ GE116.out | refine below_set ?_ GE117.out) | exact HB.out)) hb); clear BK116; clear BK117; clear HB; have BK116 := n0_; have BK117 := n1_; have HB := n2_; clear n0_ n1_ n2_; (try clear hb); (try clear hb2); (try clear hk); (try clear hi)))
                                              go_ret
                                              exact ⟨by first | rfl | (simp [errW_none, errW_some] <;> rfl) | (simp [*, errW_none, errW_some] <;> rfl), by repeat (first | (with_reducible first | exact HB.out | apply below_alloc | apply pw_below_drewN | apply below_drew1 | refine below_set ?_ GE116.out | refine below_set ?_ GE117.out) | exact HB.out)⟩
                                            · rw [if_neg c56] at H
                                              have c56b0 : (t119 == 0) = false := beq_eq_false_iff_ne.mpr c56
                                              have c56b1 : (t119 != 0) = true := bne_iff_ne.mpr c56
                                              obtain rfl := Option.some.inj H
                                              have hnb60 := NB117_116.out
                                              have hnc60 := NB116_117.out
                                              have hcz61_0 : wc.cell? ⟨gb117, 0, none⟩ = some (.int .i64 a2_0) := (blk_cell BK117.out 0).trans rfl
                                              have hcz61_1 : wc.cell? ⟨gb117, 1, none⟩ = some (.bool a2_1) := (blk_cell BK117.out 1).trans rfl
                                              have hcz61_2 : wc.cell? ⟨gb117, 2, none⟩ = some (.int .u32 a2_2) := (blk_cell BK117.out 2).trans rfl
                                              have hcz61_3 : wc.cell? ⟨gb117, 3, none⟩ = some (.int .i64 a2_3) := (blk_cell BK117.out 3).trans rfl
                                              have hcz61_4 : wc.cell? ⟨gb117, 4, none⟩ = some (.int .i64 a2_4) := (blk_cell BK117.out 4).trans rfl
                                              have hcz61_5 : wc.cell? ⟨gb117, 5, none⟩ = some (.int .i64 a2_5) := (blk_cell BK117.out 5).trans rfl
                                              have hcz61_6 : wc.cell? ⟨gb117, 6, none⟩ = some (.int .i64 a2_6) := (blk_cell BK117.out 6).trans rfl
                                              have hcz61_7 : wc.cell? ⟨gb117, 7, none⟩ = some (.int .i64 a2_7) := (blk_cell BK117.out 7).trans rfl
                                              have hfz61_0 := blk_frozen BK117.out 0
                                              have hfz61_1 := blk_frozen BK117.out 1
                                              have hfz61_2 := blk_frozen BK117.out 2
                                              have hfz61_3 := blk_frozen BK117.out 3
                                              have hfz61_4 := blk_frozen BK117.out 4
                                              have hfz61_5 := blk_frozen BK117.out 5
                                              have hfz61_6 := blk_frozen BK117.out 6
                                              have hfz61_7 := blk_frozen BK117.out 7
                                              go_wp2_with (first | (go_at_call 55; (with_reducible refine (key_Check.calls 1 a2_3 a2_4 a2_5 a2_6 t119 _ A55.out).mono ?_); rintro e w62 ⟨rfl, hb⟩; have n0_ := Aside0.mk (blk_below (g := gb116) (o := .cells #[.int .i64 a0_0, .int .u64 a0_1, .bool a0_2, .int .u64 a0_3, .int .i64 a0_4, .bool a0_5, .int .u32 a0_6, .int .i64 a0_7, .int .i64 a0_8, .int .i64 a0_9, .int .i64 a0_10, .int .i64 a0_11, .int .i64 a0_12, .int .i64 a0_13, .int .i64 a0_14, .int .i64 a0_15, .int .i64 a0_16, .slice A0_17 l0_17.length c0_17, .slice A0_18 l0_18.length c0_18, .slice A0_19 l0_19.length c0_19] 33 (0, 0)) (by (with_reducible repeat (first | refine blk_drewN ?_ _ | refine blk_drew ?_ | refine blk_alloc ?_ _)); exact BK116.out) hb); have n1_ := Aside0.mk (blk_below (g := gb117) (o := .cells #[.int .i64 a2_0, .bool a2_1, .int .u32 a2_2, .int .i64 a2_3, .int .i64 a2_4, .int .i64 a2_5, .int .i64 a2_6, .int .i64 a2_7] 27 (0, 0)) (by (with_reducible repeat (first | refine blk_drewN ?_ _ | refine blk_drew ?_ | refine blk_alloc ?_ _)); exact BK117.out) hb); have n2_ := Aside0.mk (below_step (by repeat (first | (with_reducible first | exact HB.out | apply below_alloc | apply pw_below_drewN | apply below_drew1 | refine below_set ?_ GE116.out | refine below_set ?_ GE117.out) | exact HB.out)) hb); clear BK116; clear BK117; clear HB; have BK116 := n0_; have BK117 := n1_; have HB := n2_; clear n0_ n1_ n2_; (try clear hb); (try clear hb2); (try clear hk); (try clear hi)))
                                              go_ret
                                              exact ⟨by first | rfl | (simp [errW_none, errW_some] <;> rfl) | (simp [*, errW_none, errW_some] <;> rfl), by repeat (first | (with_reducible first | exact HB.out | apply below_alloc | apply pw_below_drewN | apply below_drew1 | refine below_set ?_ GE116.out | refine below_set ?_ GE117.out) | exact HB.out)⟩
                                          · rw [if_neg c54] at H
                                            have c54b0 : (a2_0 == 4) = false := beq_eq_false_iff_ne.mpr c54
                                            have c54b1 : (a2_0 != 4) = true := bne_iff_ne.mpr c54
                                            obtain rfl := Option.some.inj H
                                            have hnb63 := NB117_116.out
                                            have hnc63 := NB116_117.out
                                            have hcz64_0 : wc.cell? ⟨gb117, 0, none⟩ = some (.int .i64 a2_0) := (blk_cell BK117.out 0).trans rfl
                                            have hcz64_1 : wc.cell? ⟨gb117, 1, none⟩ = some (.bool a2_1) := (blk_cell BK117.out 1).trans rfl
                                            have hcz64_2 : wc.cell? ⟨gb117, 2, none⟩ = some (.int .u32 a2_2) := (blk_cell BK117.out 2).trans rfl
                                            have hcz64_3 : wc.cell? ⟨gb117, 3, none⟩ = some (.int .i64 a2_3) := (blk_cell BK117.out 3).trans rfl
                                            have hcz64_4 : wc.cell? ⟨gb117, 4, none⟩ = some (.int .i64 a2_4) := (blk_cell BK117.out 4).trans rfl
                                            have hcz64_5 : wc.cell? ⟨gb117, 5, none⟩ = some (.int .i64 a2_5) := (blk_cell BK117.out 5).trans rfl
                                            have hcz64_6 : wc.cell? ⟨gb117, 6, none⟩ = some (.int .i64 a2_6) := (blk_cell BK117.out 6).trans rfl
                                            have hcz64_7 : wc.cell? ⟨gb117, 7, none⟩ = some (.int .i64 a2_7) := (blk_cell BK117.out 7).trans rfl
                                            have hfz64_0 := blk_frozen BK117.out 0
                                            have hfz64_1 := blk_frozen BK117.out 1
                                            have hfz64_2 := blk_frozen BK117.out 2
                                            have hfz64_3 := blk_frozen BK117.out 3
                                            have hfz64_4 := blk_frozen BK117.out 4
                                            have hfz64_5 := blk_frozen BK117.out 5
                                            have hfz64_6 := blk_frozen BK117.out 6
                                            have hfz64_7 := blk_frozen BK117.out 7
                                            go_wp2
                                            go_ret
                                            exact ⟨by first | rfl | (simp [errW_none, errW_some] <;> rfl) | (simp [*, errW_none, errW_some] <;> rfl), by repeat (first | (with_reducible first | exact HB.out | apply below_alloc | apply pw_below_drewN | apply below_drew1 | refine below_set ?_ GE116.out | refine below_set ?_ GE117.out) | exact HB.out)⟩
end Go.Proofs.YtiamkgoajkfofaaDoor.S
end
section
namespace Go.Proofs.YtiamkgoajkfofaaDoor.S
open Go.RowKit Go.Proofs.YtiamkgoajkfofaaDoorW.PrintWords Go.Proofs.YtiamkgoajkfofaaDoorW.PrintLast Go.Proofs.YtiamkgoajkfofaaDoorW.PrintMore
attribute [local go_sem] max2_int min2_int max_two min_two max_three min_three max_four min_four   -- for this text's walks alone
def session_plain.f (a0_0 : Int) (a0_1 : Bool) (a0_2 : Int) (a0_3 : Int) (a0_4 : Int) (a0_5 : Int) (a0_6 : Int) (a0_7 : Int) : Option (Int × Bool × Int × Int × Int × Int × Int × Int) := some (plainF a0_0 a0_1 a0_2 a0_3 a0_4 a0_5 a0_6 a0_7)
theorem session_plain.calls (a0_0 : Int) (a0_1 : Bool) (a0_2 : Int) (a0_3 : Int) (a0_4 : Int) (a0_5 : Int) (a0_6 : Int) (a0_7 : Int) (r1 : Int) (r2 : Bool) (r3 : Int) (r4 : Int) (r5 : Int) (r6 : Int) (r7 : Int) (r8 : Int) (w : World) (h : session_plain.f a0_0 a0_1 a0_2 a0_3 a0_4 a0_5 a0_6 a0_7 = some (r1, r2, r3, r4, r5, r6, r7, r8)) :
    Calls Tryd.prog 32 #[.agg #[.int .i64 a0_0, .bool a0_1, .int .u32 a0_2, .int .i64 a0_3, .int .i64 a0_4, .int .i64 a0_5, .int .i64 a0_6, .int .i64 a0_7]] w fun e w' => e = .returned (.agg #[.int .i64 r1, .bool r2, .int .u32 r3, .int .i64 r4, .int .i64 r5, .int .i64 r6, .int .i64 r7, .int .i64 r8]) ∧ Below w.heap.size w w' :=
  plain_any a0_0 a0_1 a0_2 a0_3 a0_4 a0_5 a0_6 a0_7 w (r1, r2, r3, r4, r5, r6, r7, r8) (Option.some.inj h)
end Go.Proofs.YtiamkgoajkfofaaDoor.S
end
section
namespace Go.Proofs.YtiamkgoajkfofaaDoor.S
open Go.RowKit Go.Proofs.YtiamkgoajkfofaaDoorW.PrintWords Go.Proofs.YtiamkgoajkfofaaDoorW.PrintLast Go.Proofs.YtiamkgoajkfofaaDoorW.PrintMore
attribute [local go_sem] max2_int min2_int max_two min_two max_three min_three max_four min_four   -- for this text's walks alone
def session_rises_uint32.l0 : Nat → List Int → Int → List Int → Int → Int → Option (Bool)
  | 0, _, _, _, _, _ => none
  | k + 1, x0, x3, x6, x7, x8 => if x8 < x7 then (if 0 ≤ x8 then (if x8 < (x6.length : Int) then (if (rd x6 x8) = x3 then (some false) else (if x8 > 0 then (if 0 ≤ (wrap64 (x8 - 1)) then (if (wrap64 (x8 - 1)) < (x0.length : Int) then (if (rd x0 (wrap64 (x8 - 1))) ≥ (rd x6 x8) then (some false) else (session_rises_uint32.l0 k x0 x3 x6 x7 (wrap64 (x8 + 1)))) else (none)) else (none)) else (session_rises_uint32.l0 k x0 x3 x6 x7 (wrap64 (x8 + 1))))) else (none)) else (none)) else (some true)
def session_rises_uint32.f (k : Nat) (l0 : List Int) : Option (Bool) := session_rises_uint32.l0 k l0 0 l0 (l0.length : Int) 0
set_option maxHeartbeats 8000000 in
set_option maxRecDepth 100000 in
theorem session_rises_uint32.calls (k : Nat) (A0 : Option Addr) (c0 : Nat) (l0 : List Int) (r : Bool) (w : World) (hr0 : Kd.C (Kd.int .u32) w A0 l0.length l0) (hc0 : l0.length ≤ c0) (h : session_rises_uint32.f k l0 = some r) :
    Calls Tryd.prog 46 #[.slice A0 l0.length c0] w fun e w' => e = .returned (.bool r) ∧ Drawn0 w w' := by
  have HR0 := Aside0.mk hr0
  have HC0 := Aside0.mk hc0
  clear hr0 hc0
  have H : (session_rises_uint32.l0 k l0 0 l0 (l0.length : Int) 0) = some r := h
  clear h
  have H' := Aside0.mk H
  clear H
  go_enter Tryd.func46, Tryd.ntmps46
  go_wp2
  go_loopg [8] k (fun kq v8 w' => ∃ (x8_1 : Int), v8 = .int .i64 x8_1 ∧ Aside0 (session_rises_uint32.l0 kq l0 0 l0 (l0.length : Int) x8_1 = some r) ∧ Aside0 (kq ≤ k) ∧ Drawn0 w w')
  case atStart => exact ⟨(0), (by first | rfl | (simp; done) | (simp [*]; done)), H', ⟨Nat.le_refl _⟩, by repeat (first | exact Drawn0.refl _ | apply Drawn0.step)⟩
  case round =>
    clear H'
    obtain ⟨x8_1, rfl, HA, HK1, ⟨m1, rfl⟩⟩ := hrel
    cases gk with
    | zero => exact absurd HA.out (by simp [session_rises_uint32.l0])
    | succ k1 =>
      have H := HA.out
      clear HA
      simp only [session_rises_uint32.l0] at H
      by_cases c2 : x8_1 < (l0.length : Int)
      · rw [if_pos c2] at H
        have c2b0 : decide (x8_1 < (l0.length : Int)) = true := decide_eq_true c2
        clear c2
        by_cases c3 : 0 ≤ x8_1
        · rw [if_pos c3] at H
          have c3b0 : decide (0 ≤ x8_1) = true := decide_eq_true c3
          clear c3
          by_cases c4 : x8_1 < (l0.length : Int)
          · rw [if_pos c4] at H
            have c4b0 : decide (x8_1 < (l0.length : Int)) = true := decide_eq_true c4
            clear c4
            by_cases c5 : (rd l0 x8_1) = 0
            · rw [if_pos c5] at H
              have c5b0 : ((rd l0 x8_1) == 0) = true := beq_iff_eq.mpr c5
              have c5b1 : ((rd l0 x8_1) != 0) = false := bne_eq_false_iff_eq.mpr c5
              clear c5
              obtain rfl := Option.some.inj H
              have p120 : 0 ≤ (x8_1 : Int) := of_decide_eq_true (by first | (with_reducible assumption) | assumption)
              have q120 : x8_1 < (l0.length : Int) := of_decide_eq_true (by first | (with_reducible assumption) | assumption)
              obtain ⟨ad120, e120, hx120_0⟩ := Kd.at_int HR0.out x8_1 p120 q120
              cases e120
              replace p120 := eq_true p120
              replace q120 := eq_true q120
              go_wp2
              go_ret
              exact ⟨by first | rfl | (simp; done) | (simp [*]; done), by repeat (first | exact Drawn0.refl _ | apply Drawn0.step)⟩
            · rw [if_neg c5] at H
              have c5b0 : ((rd l0 x8_1) == 0) = false := beq_eq_false_iff_ne.mpr c5
              have c5b1 : ((rd l0 x8_1) != 0) = true := bne_iff_ne.mpr c5
              by_cases c6 : x8_1 > 0
              · rw [if_pos c6] at H
                have c6b0 : decide (0 < x8_1) = true := decide_eq_true c6
                clear c6
                obtain ⟨ji7, hji7⟩ : ∃ j_ : Int, (wrap64 (x8_1 - 1)) = j_ := ⟨_, rfl⟩
                replace H : (if 0 ≤ (ji7) then (if (ji7) < (l0.length : Int) then (if (rd l0 (ji7)) ≥ (rd l0 x8_1) then (some false) else (session_rises_uint32.l0 k1 l0 0 l0 (l0.length : Int) (wrap64 (x8_1 + 1)))) else (none)) else (none)) = some r := by first | (rw [hji7] at H; exact H) | (simp only [hji7] at H ⊢; exact H)
                have hji7w : (IntKind.i64.wrap (x8_1 - 1)) = ji7 := (i64_w _).trans hji7
                by_cases c8 : 0 ≤ (ji7)
                · rw [if_pos c8] at H
                  have c8b0 : decide (0 ≤ (ji7)) = true := decide_eq_true c8
                  clear c8
                  by_cases c9 : (ji7) < (l0.length : Int)
                  · rw [if_pos c9] at H
                    have c9b0 : decide ((ji7) < (l0.length : Int)) = true := decide_eq_true c9
                    clear c9
                    by_cases c10 : (rd l0 (ji7)) ≥ (rd l0 x8_1)
                    · rw [if_pos c10] at H
                      have c10b0 : decide ((rd l0 x8_1) ≤ (rd l0 (ji7))) = true := decide_eq_true c10
                      clear c10
                      obtain rfl := Option.some.inj H
                      have p120 : 0 ≤ (x8_1 : Int) := of_decide_eq_true (by first | (with_reducible assumption) | assumption)
                      have q120 : x8_1 < (l0.length : Int) := of_decide_eq_true (by first | (with_reducible assumption) | assumption)
                      obtain ⟨ad120, e120, hx120_0⟩ := Kd.at_int HR0.out x8_1 p120 q120
                      cases e120
                      replace p120 := eq_true p120
                      replace q120 := eq_true q120
                      have p121 : 0 ≤ ((ji7) : Int) := of_decide_eq_true (by first | (with_reducible assumption) | assumption)
                      have q121 : (ji7) < (l0.length : Int) := of_decide_eq_true (by first | (with_reducible assumption) | assumption)
                      obtain ⟨ad121, e121, hx121_0⟩ := Kd.at_int HR0.out (ji7) p121 q121
                      obtain rfl : ad120 = ad121 := (by injection e121)
                      replace p121 := eq_true p121
                      replace q121 := eq_true q121
                      go_wp2
                      go_ret
                      exact ⟨by first | rfl | (simp; done) | (simp only [← hji7] <;> (first | rfl | simp)) | (simp [*]; done), by repeat (first | exact Drawn0.refl _ | apply Drawn0.step)⟩
                    · rw [if_neg c10] at H
                      have c10b0 : decide ((rd l0 x8_1) ≤ (rd l0 (ji7))) = false := decide_eq_false c10
                      clear c10
                      have H' := Aside0.mk H
                      clear H
                      have p120 : 0 ≤ (x8_1 : Int) := of_decide_eq_true (by first | (with_reducible assumption) | assumption)
                      have q120 : x8_1 < (l0.length : Int) := of_decide_eq_true (by first | (with_reducible assumption) | assumption)
                      obtain ⟨ad120, e120, hx120_0⟩ := Kd.at_int HR0.out x8_1 p120 q120
                      cases e120
                      replace p120 := eq_true p120
                      replace q120 := eq_true q120
                      have p121 : 0 ≤ ((ji7) : Int) := of_decide_eq_true (by first | (with_reducible assumption) | assumption)
                      have q121 : (ji7) < (l0.length : Int) := of_decide_eq_true (by first | (with_reducible assumption) | assumption)
                      obtain ⟨ad121, e121, hx121_0⟩ := Kd.at_int HR0.out (ji7) p121 q121
                      obtain rfl : ad120 = ad121 := (by injection e121)
                      replace p121 := eq_true p121
                      replace q121 := eq_true q121
                      go_wp2
                      go_roundg k1
                      case measure => have := HK1.out; omega
                      case rel => exact ⟨(wrap64 (x8_1 + 1)), (by first | rfl | (simp; done) | (simp [*]; done)), H', ⟨by have := HK1.out; omega⟩, by repeat (first | exact Drawn0.refl _ | apply Drawn0.step)⟩
                  · rw [if_neg c9] at H
                    exact absurd H (by simp)
                · rw [if_neg c8] at H
                  exact absurd H (by simp)
              · rw [if_neg c6] at H
                have c6b0 : decide (0 < x8_1) = false := decide_eq_false c6
                clear c6
                have H' := Aside0.mk H
                clear H
                have p120 : 0 ≤ (x8_1 : Int) := of_decide_eq_true (by first | (with_reducible assumption) | assumption)
                have q120 : x8_1 < (l0.length : Int) := of_decide_eq_true (by first | (with_reducible assumption) | assumption)
                obtain ⟨ad120, e120, hx120_0⟩ := Kd.at_int HR0.out x8_1 p120 q120
                cases e120
                replace p120 := eq_true p120
                replace q120 := eq_true q120
                go_wp2
                go_roundg k1
                case measure => have := HK1.out; omega
                case rel => exact ⟨(wrap64 (x8_1 + 1)), (by first | rfl | (simp; done) | (simp [*]; done)), H', ⟨by have := HK1.out; omega⟩, by repeat (first | exact Drawn0.refl _ | apply Drawn0.step)⟩
          · rw [if_neg c4] at H
            exact absurd H (by simp)
        · rw [if_neg c3] at H
          exact absurd H (by simp)
      · rw [if_neg c2] at H
        have c2b0 : decide (x8_1 < (l0.length : Int)) = false := decide_eq_false c2
        clear c2
        obtain rfl := Option.some.inj H
        go_wp2
        go_ret
        exact ⟨by first | rfl | (simp; done) | (simp [*]; done), by repeat (first | exact Drawn0.refl _ | apply Drawn0.step)⟩
end Go.Proofs.YtiamkgoajkfofaaDoor.S
end
section
namespace Go.Proofs.YtiamkgoajkfofaaDoor.S
open Go.RowKit Go.Proofs.YtiamkgoajkfofaaDoorW.PrintWords Go.Proofs.YtiamkgoajkfofaaDoorW.PrintLast Go.Proofs.YtiamkgoajkfofaaDoorW.PrintMore
attribute [local go_sem] max2_int min2_int max_two min_two max_three min_three max_four min_four   -- for this text's walks alone
theorem wrap_sm {z : Int} (h : -9223372036854775808 ≤ z) (h2 : z < 9223372036854775808) : IntKind.i64.wrap z = z := by
  rw [IntKind.wrap_i64]; omega
def zeroAt : List S63 → Int → Int
  | [], _ => -1
  | x :: xs, i => if x.f0 = 0 then i else zeroAt xs (i + 1)
theorem drop_seen {l : List S63} {n : Int} (h0 : 0 ≤ n) (h1 : n < l.length) : l.drop n.toNat = rd_T63 l n :: l.drop (n + 1).toNat := by
  have e : (n + 1).toNat = n.toNat + 1 := by omega
  have hl : n.toNat < l.length := by omega
  rw [e, List.drop_eq_getElem_cons hl]
  unfold rd_T63
  rw [List.getD_eq_getElem?_getD, List.getElem?_eq_getElem hl]
  rfl
theorem zero_fn (a b : Int) (w : World) : Calls Tryd.prog 60 #[.agg #[.int .u32 a, .int .u64 b]] w fun e w' => e = .returned (.bool (a == 0)) ∧ Below w.heap.size w w' := by
  have hx := Blk.new w 63 #[.int .u32 a, .int .u64 b]
  have e0 := hx.cell 0
  simp at e0
  go_enter Tryd.func60, Tryd.ntmps60
  go_wp2
  go_ret
  exact ⟨rfl, keep_below_alloc _ (Below.refl _ _)⟩
set_option maxHeartbeats 4000000 in
theorem zero_index (A : Option Addr) (c : Nat) (l : List S63) (w : World) (hr : Kd.C k63 w A l.length l) (hn : l.length ≤ 1000) :
    Calls Tryd.prog 63 #[.slice A l.length c, .func (.func 60) #[] #[]] w fun e w' => e = .returned (.int .i64 (zeroAt l 0)) ∧ Below w.heap.size w w' := by
  have HR := Aside0.mk hr
  clear hr
  obtain ⟨z0, hz0⟩ : ∃ z, zeroAt l 0 = z := ⟨_, rfl⟩
  rw [hz0]
  go_enter Tryd.func63, Tryd.ntmps63
  go_wp2
  go_loopw [8] (fun v8 wr => ∃ i : Int, v8 = .int .i64 i ∧ 0 ≤ i ∧ i ≤ l.length ∧ Aside0 (zeroAt (l.drop i.toNat) i = z0) ∧ Below w.heap.size w wr) (fun v8 _ => l.length - (intOf v8).toNat)
  case atStart => exact ⟨0, rfl, Int.le_refl _, by omega, ⟨by simpa using hz0⟩, Below.refl _ _⟩
  case round =>
    obtain ⟨i, rfl, i0, i1, HI, hB⟩ := hrel
    by_cases hlt : i < l.length
    · have hd : decide (i < (l.length : Int)) = true := decide_eq_true hlt
      have hw := wrap_sm (z := i + 1) (by omega) (by omega)
      obtain ⟨ad, rfl, x0, x1⟩ := at_T63 (Kd.C_below HR.out hB) i i0 hlt
      have p0 : (0 ≤ i) = True := eq_true i0
      have p1 : (i < (l.length : Int)) = True := eq_true hlt
      have HX := HI.out
      rw [drop_seen i0 hlt] at HX
      unfold zeroAt at HX
      have HC := fun W => Aside0.mk (zero_fn (rd_T63 l i).f0 (rd_T63 l i).f1 W)
      clear HI
      by_cases hz : (rd_T63 l i).f0 = 0
      · rw [if_pos hz] at HX
        have hzb : ((rd_T63 l i).f0 == 0) = true := beq_iff_eq.mpr hz
        subst HX
        have HZ := Aside0.mk hzb
        clear hz hzb
        go_wp2_with (go_at_call 60; (with_reducible refine (HC _).out.mono ?_); rintro e w1 ⟨rfl, hb1⟩; rw [HZ.out])
        go_ret
        exact ⟨rfl, hB.trans (hb1.mono hB.size)⟩
      · rw [if_neg hz] at HX
        have hzb : ((rd_T63 l i).f0 == 0) = false := beq_eq_false_iff_ne.mpr hz
        have HZ := Aside0.mk hzb
        have HXX := Aside0.mk HX
        clear HX hz hzb
        go_wp2_with (go_at_call 60; (with_reducible refine (HC _).out.mono ?_); rintro e w1 ⟨rfl, hb1⟩; rw [HZ.out])
        go_roundw
        case rel => exact ⟨i + 1, by simp [hw], by omega, by omega, HXX, hB.trans (hb1.mono hB.size)⟩
        case measure => simp [intOf, hw]; omega
    · have hd : decide (i < (l.length : Int)) = false := decide_eq_false hlt
      have HX := HI.out
      rw [List.drop_eq_nil_of_le (by omega)] at HX
      unfold zeroAt at HX
      subst HX
      clear HI
      go_wp2
      go_ret
      exact ⟨rfl, hB⟩
set_option maxHeartbeats 2000000 in
theorem zero_contains (A : Option Addr) (c : Nat) (l : List S63) (w : World) (hr : Kd.C k63 w A l.length l) (hn : l.length ≤ 1000) :
    Calls Tryd.prog 59 #[.slice A l.length c, .func (.func 60) #[] #[]] w fun e w' => e = .returned (.bool (decide (0 ≤ zeroAt l 0))) ∧ Below w.heap.size w w' := by
  have H := fun W hW => Aside0.mk (zero_index A c l W (Kd.C_below hr hW) hn)
  go_enter Tryd.func59, Tryd.ntmps59
  go_wp2_with (go_at_call 63; (with_reducible refine (H _ (Below.refl _ _)).out.mono ?_); rintro e w1 ⟨rfl, hb1⟩)
  go_ret
  exact ⟨rfl, hb1⟩
def risesAt (l : List Int) (i : Nat) : Bool := decide (0 < rd l (i : Int)) && (decide (i = 0) || decide (rd l ((i : Int) - 1) < rd l (i : Int)))
def risesTo (l : List Int) (i : Nat) : Bool := (List.range i).all (risesAt l)
theorem risesTo_next (l : List Int) (i : Nat) : risesTo l (i + 1) = (risesTo l i && risesAt l i) := by
  unfold risesTo
  rw [List.range_succ, List.all_append]
  simp
def cursor_Check.f (a0_0 : Int) (a0_1 : Int) (a0_2 : Int) (a0_3 : Int) (l0_4 : List (S63)) (l0_5 : List Int) : Option Int :=
  if l0_4.length ≤ 1000 ∧ l0_5.length ≤ 1000 then (key_Check.f 1 a0_0 a0_1 a0_2 a0_3).bind fun e => some (if (decide (e = 0) && decide (l0_4.length ≤ 128) && decide (¬ 0 ≤ zeroAt l0_4 0) && risesTo l0_5 l0_5.length) = true then 0 else 230) else none
set_option maxHeartbeats 8000000 in
set_option maxRecDepth 100000 in
theorem cursor_Check.calls (a0_0 : Int) (a0_1 : Int) (a0_2 : Int) (a0_3 : Int) (A0_4 : Option Addr) (c0_4 : Nat) (l0_4 : List (S63)) (A0_5 : Option Addr) (c0_5 : Nat) (l0_5 : List Int) (r : Int) (w : World) (hr0_4 : Kd.C k63 w A0_4 l0_4.length l0_4) (hc0_4 : l0_4.length ≤ c0_4) (hr0_5 : Kd.C (Kd.int .u32) w A0_5 l0_5.length l0_5) (hc0_5 : l0_5.length ≤ c0_5) (h : cursor_Check.f a0_0 a0_1 a0_2 a0_3 l0_4 l0_5 = some r) :
    Calls Tryd.prog 45 #[.agg #[.int .i64 a0_0, .int .i64 a0_1, .int .i64 a0_2, .int .i64 a0_3, .slice A0_4 l0_4.length c0_4, .slice A0_5 l0_5.length c0_5]] w fun e w' => e = .returned (.int .i64 r) ∧ Below w.heap.size w w' := by
  unfold cursor_Check.f at h
  by_cases hn : l0_4.length ≤ 1000 ∧ l0_5.length ≤ 1000
  case neg => rw [if_neg hn] at h; cases h
  rw [if_pos hn] at h
  obtain ⟨n4, n5⟩ := hn
  obtain ⟨e0, he, h⟩ := Option.bind_eq_some_iff.1 h
  injection h with h
  obtain ⟨W0, hW0⟩ : ∃ W, w.alloc (.cells #[.int .i64 a0_0, .int .i64 a0_1, .int .i64 a0_2, .int .i64 a0_3, .slice A0_4 l0_4.length c0_4, .slice A0_5 l0_5.length c0_5] 31) = W := ⟨_, rfl⟩
  have hb0 : Blk W0 w.heap.size 31 #[.int .i64 a0_0, .int .i64 a0_1, .int .i64 a0_2, .int .i64 a0_3, .slice A0_4 l0_4.length c0_4, .slice A0_5 l0_5.length c0_5] := by rw [← hW0]; exact Blk.new _ _ _
  have hB0 : Below w.heap.size w W0 := by rw [← hW0]; exact keep_below_alloc _ (Below.refl _ _)
  have HK := fun W => Aside0.mk (key_Check.calls 1 a0_0 a0_1 a0_2 a0_3 e0 W he)
  have HZ := fun (W : World) (hb : Below w.heap.size w W) => Aside0.mk (zero_contains A0_4 c0_4 l0_4 W (Kd.C_below hr0_4 hb) n4)
  have HR := Aside0.mk hr0_5
  have HH := Aside0.mk h
  have HW := Aside0.mk hW0
  clear hr0_4 hr0_5 h he hW0
  obtain ⟨b1, hb1⟩ : ∃ b, (e0 == 0) = b := ⟨_, rfl⟩
  obtain ⟨b2, hb2⟩ : ∃ b, decide ((l0_4.length : Int) ≤ 128) = b := ⟨_, rfl⟩
  obtain ⟨b3, hb3⟩ : ∃ b, decide (0 ≤ zeroAt l0_4 0) = b := ⟨_, rfl⟩
  have hr : (if (b1 && b2 && !b3 && risesTo l0_5 l0_5.length) = true then 0 else 230) = r := by
    rw [← HH.out, ← hb1, ← hb2, ← hb3]
    congr 2
    by_cases g1 : e0 = 0 <;> by_cases g2 : l0_4.length ≤ 128 <;> by_cases g3 : 0 ≤ zeroAt l0_4 0 <;> simp [g1, g2, g3] <;> omega
  clear HH
  have HR2 := Aside0.mk hr
  clear hr
  go_enter Tryd.func45, Tryd.ntmps45
  go_upto_region 1 with fail
  rw [HW.out]
  clear HW
  go_cut [3] (fun s3 wx => ∃ W : World, W = wx ∧ s3 = .bool (b1 && b2) ∧ Below W0.heap.size W0 wx)
  case first =>
    have k0 := hb0.cell 0
    have k1 := hb0.cell 1
    have k2 := hb0.cell 2
    have k3 := hb0.cell 3
    simp at k0 k1 k2 k3
    cases b1
    · go_wp2_with (go_at_call 55; (with_reducible refine (HK _).out.mono ?_); rintro e w1 ⟨rfl, hc1⟩; have k4 := (hb0.keep hc1).cell 4; simp at k4)
      go_meet
      go_split_ands
      exact ⟨_, rfl, rfl, hc1⟩
    · go_wp2_with (go_at_call 55; (with_reducible refine (HK _).out.mono ?_); rintro e w1 ⟨rfl, hc1⟩; have k4 := (hb0.keep hc1).cell 4; simp at k4)
      go_meet
      go_split_ands
      exact ⟨_, rfl, rfl, hc1⟩
  case rest =>
    obtain ⟨w1, rfl, rfl, hc1⟩ := hcut
    have hb4 := hb0.keep hc1
    have hB1 := keep_below hB0 hc1
    obtain ⟨b12, hb12⟩ : ∃ b, (b1 && b2) = b := ⟨_, rfl⟩
    rw [hb12] at HR2
    rw [hb12]
    clear hb12 hb1 hb2
    go_upto_region 2 with fail
    go_cut [3] (fun s3 wx => ∃ W : World, W = wx ∧ s3 = .bool (b12 && !b3) ∧ Below w1.heap.size w1 wx)
    case first =>
      have k4 := hb4.cell 4
      simp at k4
      cases b12
      · go_wp2
        go_meet
        go_split_ands
        exact ⟨_, rfl, rfl, Below.refl _ _⟩
      · go_wp2_with (go_at_call 59; (with_reducible refine (HZ _ hB1).out.mono ?_); rintro e w2 ⟨rfl, hc2⟩; rw [hb3])
        go_meet
        go_split_ands
        exact ⟨_, rfl, rfl, hc2⟩
    case rest =>
      obtain ⟨w2, rfl, rfl, hc2⟩ := hcut
      have hb5 := hb4.keep hc2
      have hB2 := keep_below hB1 hc2
      obtain ⟨b, hb⟩ : ∃ b, (b12 && !b3) = b := ⟨_, rfl⟩
      rw [hb] at HR2
      rw [hb]
      clear hb hb3 hb0 hb4 hc1 hc2 HK HZ
      have k5 := hb5.cell 5
      simp at k5
      go_wp2
      go_loopw [26, 3] (fun v26 v3 wr => ∃ i : Nat, v26 = .int .i64 (i : Int) ∧ i ≤ l0_5.length ∧ v3 = .bool (b && risesTo l0_5 i) ∧ Below w2.heap.size w2 wr) (fun v26 _ _ => l0_5.length - (intOf v26).toNat)
      case atStart => exact ⟨0, rfl, by omega, by simp [risesTo], Below.refl _ _⟩
      case round =>
        obtain ⟨i, rfl, hi, rfl, hBr⟩ := hrel
        have hbr := hb5.keep hBr
        have hBw := keep_below hB2 hBr
        clear k5
        have k5 := hbr.cell 5
        simp at k5
        obtain ⟨c, hc⟩ : ∃ c, (b && risesTo l0_5 i) = c := ⟨_, rfl⟩
        rw [hc]
        by_cases hlt : i < l0_5.length
        · have hd : decide ((i : Int) < (l0_5.length : Int)) = true := decide_eq_true (by omega)
          have hw := wrap_sm (z := (i : Int) + 1) (by omega) (by omega)
          obtain ⟨ad, hA, x0⟩ := Kd.at_int (Kd.C_below HR.out hBw) (i : Int) (by omega) (by omega)
          have p0 : (0 ≤ (i : Int)) = True := eq_true (by omega)
          have p1 : ((i : Int) < (l0_5.length : Int)) = True := eq_true (by omega)
          have hnx : ∀ d : Bool, risesAt l0_5 i = d → (b && risesTo l0_5 (i + 1)) = (c && d) := fun d h => by rw [risesTo_next, ← hc, ← h, Bool.and_assoc]
          have HN := Aside0.mk hnx
          clear hnx hc
          have hrm : ∀ w' : World, Below w2.heap.size w2 w' → ∀ c' : Bool, (∃ d, risesAt l0_5 i = d ∧ c' = (c && d)) → ∃ i' : Nat, Value.int .i64 ((i : Int) + 1) = .int .i64 (i' : Int) ∧ i' ≤ l0_5.length ∧ Value.bool c' = .bool (b && risesTo l0_5 i') ∧ Below w2.heap.size w2 w' := fun w' hw' c' ⟨d, h1, h2⟩ => ⟨i + 1, by simp, by omega, by rw [HN.out d h1, h2], hw'⟩
          have HM := Aside0.mk hrm
          clear hrm
          cases A0_5 with
          | none => cases hA
          | some ad0 =>
          injection hA with hA
          subst hA
          have x1 : wr.cell? (ad0.add i) = some (.int .u32 (rd l0_5 (i : Int))) := by simpa using x0
          clear x0
          cases c
          · go_wp2
            go_roundw
            case rel => simpa only [hw] using HM.out _ hBr false ⟨_, rfl, by simp⟩
            case measure => simp [intOf, hw]; omega
          · by_cases hx : 0 < rd l0_5 (i : Int)
            · have hx1 : decide (0 < rd l0_5 (i : Int)) = true := decide_eq_true hx
              by_cases h0 : i = 0
              · have h1 : ((i : Int) == 0) = true := by simp [h0]
                have H0 := Aside0.mk h0
                have HX := Aside0.mk hx
                clear h0 hx
                go_wp2
                go_roundw
                case rel => simpa only [hw] using HM.out _ hBr true ⟨_, rfl, by have h9 := HX.out; rw [H0.out] at h9; simp at h9; simp [risesAt, H0.out, h9]⟩
                case measure => simp [intOf, hw]; omega
              · have h1 : ((i : Int) == 0) = false := by simp [h0]
                obtain ⟨jj, hj⟩ : ∃ jj : Nat, (i : Int) - 1 = (jj : Int) := ⟨i - 1, by omega⟩
                have hwm : IntKind.i64.wrap ((i : Int) - 1) = (jj : Int) := (wrap_sm (by omega) (by omega)).trans hj
                obtain ⟨ad1, hA1, y0⟩ := Kd.at_int (Kd.C_below HR.out hBw) (jj : Int) (by omega) (by omega)
                injection hA1 with hA1
                subst hA1
                have y1 : wr.cell? (ad0.add jj) = some (.int .u32 (rd l0_5 (jj : Int))) := by simpa using y0
                clear y0
                have p2 : (0 ≤ (jj : Int)) = True := eq_true (by omega)
                have p3 : ((jj : Int) < (l0_5.length : Int)) = True := eq_true (by omega)
                obtain ⟨d, hdl⟩ : ∃ d, decide (rd l0_5 (jj : Int) < rd l0_5 (i : Int)) = d := ⟨_, rfl⟩
                have HJ := Aside0.mk hj
                clear hj
                have HD := Aside0.mk hdl
                have H0 := Aside0.mk h0
                have HX := Aside0.mk hx
                clear h0 hx
                go_wp2
                go_roundw
                case rel => simpa only [hw] using HM.out _ hBr d ⟨_, rfl, by simp [risesAt, HX.out, H0.out, HJ.out, HD.out]⟩
                case measure => simp [intOf, hw]; omega
            · have hx1 : decide (0 < rd l0_5 (i : Int)) = false := decide_eq_false hx
              have HX := Aside0.mk hx
              clear hx
              go_wp2
              go_roundw
              case rel => simpa only [hw] using HM.out _ hBr false ⟨_, rfl, by simp [risesAt, HX.out]⟩
              case measure => simp [intOf, hw]; omega
        · have hd : decide ((i : Int) < (l0_5.length : Int)) = false := decide_eq_false (by omega)
          obtain rfl : i = l0_5.length := by omega
          have hr := HR2.out
          rw [hc] at hr
          clear HR2 hc
          cases c
          · simp at hr
            subst hr
            go_wp2
            go_ret
            exact ⟨rfl, hBw⟩
          · simp at hr
            subst hr
            go_wp2
            go_ret
            exact ⟨rfl, hBw⟩
end Go.Proofs.YtiamkgoajkfofaaDoor.S
end
