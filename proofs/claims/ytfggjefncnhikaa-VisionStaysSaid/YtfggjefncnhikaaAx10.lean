-- By pr.py, a program of this session's, over the kit's print; with contracts of the session's own. Lean checks it.
import Derived.Test.YtfggjefncnhikaaAx0
import Derived.Test.YtfggjefncnhikaaAx4
import Derived.Test.YtfggjefncnhikaaAx7
namespace Go.Proofs.Ytfggjefncnhikaa.A
open Go.RowKit Go.Proofs.YtfggjefncnhikaaW.PrintWords Go.Proofs.YtfggjefncnhikaaW.PrintLast Go.Proofs.YtfggjefncnhikaaW.PrintMore
attribute [local go_sem] max2_int min2_int max_two min_two max_three min_three max_four min_four   -- for this text's walks alone
set_option linter.unusedVariables false
set_option linter.unusedSimpArgs false

/-! ### gazetteerlaw17_VisionStays: function 4 -/
mutual
def gazetteerlaw17_VisionStays.l0 : Nat → Bool → Int → List (S44) → Int → Int → Int → List (S44) → Int → Int → Int → Int → Int → Int → Int → Int → Int → Bool → Int → Option (Bool)
  | 0, _, _, _, _, _, _, _, _, _, _, _, _, _, _, _, _, _, _ => none
  | k + 1, x8, x10, x38, x39, x40, x191000, x191001, x192000, x192001, x192002, x192003, x192004, x192005, x192006, x192007, x194000, x194001, x194002 => if x40 < x39 then (if 0 ≤ x40 then (if x40 < (x38.length : Int) then (gazetteerlaw17_VisionStays.l0 k x8 (mx x10 ((rd_T44 x38 x40).f1)) x38 x39 (wrap64 (x40 + 1)) x191000 x191001 x192000 x192001 x192002 x192003 x192004 x192005 x192006 x192007 x194000 x194001 x194002) else (none)) else (none)) else (if x10 > 9223372036854775808 then (some true) else ((gazetteerlaw17_copied.f x191000 x191001).bind fun bt198 => (gazetteerlaw17_VisionStays.l1 k x8 x10 (bt198.2.length : Int) 0 x192000 x192001 x192002 x192003 x192004 x192005 x192006 x192007 x194000 x194001 x194002 bt198.1 bt198.2)))
def gazetteerlaw17_VisionStays.l1 : Nat → Bool → Int → Int → Int → Int → Int → Int → Int → Int → Int → Int → Int → Int → Bool → Int → Int → List (S44) → Option (Bool)
  | 0, _, _, _, _, _, _, _, _, _, _, _, _, _, _, _, _, _ => none
  | k + 1, x8, x10, x55, x56, x192000, x192001, x192002, x192003, x192004, x192005, x192006, x192007, x194000, x194001, x194002, x203000, x203001 => if x56 < x55 then (if 0 ≤ x56 then (if x56 < (x203001.length : Int) then (if ((rd_T44 x203001 x56).f1) = 0 then ((some (x203001.set (x56 : Int).toNat (⟨(rd_T44 x203001 x56).f0, IntKind.u64.wrap (x10 + 1)⟩ : S44) : List (S44))).bind fun y204 => ((vision_Sees.f x203000 y204 x194000 x194001 x194002 x192000 x192001 x192002 x192003 x192004 x192005 x192006 x192007).bind fun bt205 => (if bt205.2 = 0 then (if (bt205.1 != x8) = true then (some false) else (gazetteerlaw17_VisionStays.l1 k x8 (IntKind.u64.wrap (x10 + 1)) x55 (wrap64 (x56 + 1)) x192000 x192001 x192002 x192003 x192004 x192005 x192006 x192007 x194000 x194001 x194002 x203000 y204)) else (some false)))) else ((vision_Sees.f x203000 x203001 x194000 x194001 x194002 x192000 x192001 x192002 x192003 x192004 x192005 x192006 x192007).bind fun bt207 => (if bt207.2 = 0 then (if (bt207.1 != x8) = true then (some false) else (gazetteerlaw17_VisionStays.l1 k x8 x10 x55 (wrap64 (x56 + 1)) x192000 x192001 x192002 x192003 x192004 x192005 x192006 x192007 x194000 x194001 x194002 x203000 x203001)) else (some false)))) else (none)) else (none)) else (some true)
end
def gazetteerlaw17_VisionStays.f (k : Nat) (a0_0 : Int) (l0_1 : List (S44)) (a1 : Int) (a2_0 : Int) (a2_1 : Int) (a2_2 : Int) (a2_3 : Int) (a2_4 : Int) (a2_5 : Int) (a2_6 : Int) (a2_7 : Int) : Option (Bool) := (gazetteerlaw17_wakes.f).bind fun t192 => (if t192 = true then (if (l0_1.length : Int) > 500 then (some true) else ((vision_Sees.f a0_0 l0_1 0 true a1 a2_0 a2_1 a2_2 a2_3 a2_4 a2_5 a2_6 a2_7).bind fun bt194 => (if bt194.2 = 0 then (gazetteerlaw17_VisionStays.l0 k bt194.1 a1 l0_1 (l0_1.length : Int) 0 a0_0 l0_1 a2_0 a2_1 a2_2 a2_3 a2_4 a2_5 a2_6 a2_7 0 true a1) else (some (!bt194.1))))) else (some false))
theorem gazetteerlaw17_VisionStays.mono_l : ∀ k, (∀ y0 y1 y2 y3 y4 y5 y6 y7 y8 y9 y10 y11 y12 y13 y14 y15 y16 y17, LeO (gazetteerlaw17_VisionStays.l0 k y0 y1 y2 y3 y4 y5 y6 y7 y8 y9 y10 y11 y12 y13 y14 y15 y16 y17) (gazetteerlaw17_VisionStays.l0 (k + 1) y0 y1 y2 y3 y4 y5 y6 y7 y8 y9 y10 y11 y12 y13 y14 y15 y16 y17)) ∧ (∀ y0 y1 y2 y3 y4 y5 y6 y7 y8 y9 y10 y11 y12 y13 y14 y15 y16, LeO (gazetteerlaw17_VisionStays.l1 k y0 y1 y2 y3 y4 y5 y6 y7 y8 y9 y10 y11 y12 y13 y14 y15 y16) (gazetteerlaw17_VisionStays.l1 (k + 1) y0 y1 y2 y3 y4 y5 y6 y7 y8 y9 y10 y11 y12 y13 y14 y15 y16))
  | 0 => ⟨fun _ _ _ _ _ _ _ _ _ _ _ _ _ _ _ _ _ _ r h => by simp [gazetteerlaw17_VisionStays.l0] at h, fun _ _ _ _ _ _ _ _ _ _ _ _ _ _ _ _ _ r h => by simp [gazetteerlaw17_VisionStays.l1] at h⟩
  | k + 1 => by
    obtain ⟨ih0, ih1⟩ := gazetteerlaw17_VisionStays.mono_l k
    refine ⟨?_, ?_⟩
    · intro y0 y1 y2 y3 y4 y5 y6 y7 y8 y9 y10 y11 y12 y13 y14 y15 y16 y17
      unfold gazetteerlaw17_VisionStays.l0
      repeat' first
      | (with_reducible exact ih0 _ _ _ _ _ _ _ _ _ _ _ _ _ _ _ _ _ _)
      | (with_reducible exact ih1 _ _ _ _ _ _ _ _ _ _ _ _ _ _ _ _ _)
      | (with_reducible exact LeO.refl _)
      | (with_reducible exact LeO.none _)
      | (with_reducible refine LeO.ite ?_ ?_)
      | (with_reducible refine LeO.bind ?_ (fun _ => ?_))
      | exact ih0 _ _ _ _ _ _ _ _ _ _ _ _ _ _ _ _ _ _
      | exact ih1 _ _ _ _ _ _ _ _ _ _ _ _ _ _ _ _ _
      | exact LeO.none _
      | refine LeO.ite ?_ ?_
      | refine LeO.bind ?_ (fun _ => ?_)
    · intro y0 y1 y2 y3 y4 y5 y6 y7 y8 y9 y10 y11 y12 y13 y14 y15 y16
      unfold gazetteerlaw17_VisionStays.l1
      repeat' first
      | (with_reducible exact ih0 _ _ _ _ _ _ _ _ _ _ _ _ _ _ _ _ _ _)
      | (with_reducible exact ih1 _ _ _ _ _ _ _ _ _ _ _ _ _ _ _ _ _)
      | (with_reducible exact LeO.refl _)
      | (with_reducible exact LeO.none _)
      | (with_reducible refine LeO.ite ?_ ?_)
      | (with_reducible refine LeO.bind ?_ (fun _ => ?_))
      | exact ih0 _ _ _ _ _ _ _ _ _ _ _ _ _ _ _ _ _ _
      | exact ih1 _ _ _ _ _ _ _ _ _ _ _ _ _ _ _ _ _
      | exact LeO.none _
      | refine LeO.ite ?_ ?_
      | refine LeO.bind ?_ (fun _ => ?_)
theorem gazetteerlaw17_VisionStays.mono : ∀ a0 a1 a2 a3 a4 a5 a6 a7 a8 a9 a10 k, LeO (gazetteerlaw17_VisionStays.f k a0 a1 a2 a3 a4 a5 a6 a7 a8 a9 a10) (gazetteerlaw17_VisionStays.f (k + 1) a0 a1 a2 a3 a4 a5 a6 a7 a8 a9 a10) := by
  intro a0 a1 a2 a3 a4 a5 a6 a7 a8 a9 a10 k
  obtain ⟨ih0, ih1⟩ := gazetteerlaw17_VisionStays.mono_l k
  unfold gazetteerlaw17_VisionStays.f
  repeat' first
      | (with_reducible exact ih0 _ _ _ _ _ _ _ _ _ _ _ _ _ _ _ _ _ _)
      | (with_reducible exact ih1 _ _ _ _ _ _ _ _ _ _ _ _ _ _ _ _ _)
      | (with_reducible exact LeO.refl _)
      | (with_reducible exact LeO.none _)
      | (with_reducible refine LeO.ite ?_ ?_)
      | (with_reducible refine LeO.bind ?_ (fun _ => ?_))
      | exact ih0 _ _ _ _ _ _ _ _ _ _ _ _ _ _ _ _ _ _
      | exact ih1 _ _ _ _ _ _ _ _ _ _ _ _ _ _ _ _ _
      | exact LeO.none _
      | refine LeO.ite ?_ ?_
      | refine LeO.bind ?_ (fun _ => ?_)
set_option maxHeartbeats 8000000 in
set_option maxRecDepth 100000 in
theorem gazetteerlaw17_VisionStays.calls (k : Nat) (a0_0 : Int) (A0_1 : Option Addr) (c0_1 : Nat) (l0_1 : List (S44)) (a1 : Int) (a2_0 : Int) (a2_1 : Int) (a2_2 : Int) (a2_3 : Int) (a2_4 : Int) (a2_5 : Int) (a2_6 : Int) (a2_7 : Int) (r : Bool) (w : World) (hr0_1 : Kd.C k44 w A0_1 l0_1.length l0_1) (hc0_1 : l0_1.length ≤ c0_1) (h : gazetteerlaw17_VisionStays.f k a0_0 l0_1 a1 a2_0 a2_1 a2_2 a2_3 a2_4 a2_5 a2_6 a2_7 = some r) :
    Calls Try.prog 4 #[.agg #[.int .u64 a0_0, .slice A0_1 l0_1.length c0_1], .int .u64 a1, .agg #[.int .u32 a2_0, .int .u64 a2_1, .int .u64 a2_2, .int .i64 a2_3, .int .i64 a2_4, .int .i64 a2_5, .int .i64 a2_6, .int .i64 a2_7]] w fun e w' => e = .returned (.bool r) ∧ Below w.heap.size w w' := by
  have hu25 := Try.underlying25
  have hu32 := Try.underlying32
  have hu27 := Try.underlying27
  have hu44 := Try.underlying44
  have HR0_1 := Aside0.mk hr0_1
  have HC0_1 := Aside0.mk hc0_1
  clear hr0_1 hc0_1
  have HB := Aside0.mk (Below.refl w.heap.size w)
  have H : ((gazetteerlaw17_wakes.f).bind fun t192 => (if t192 = true then (if (l0_1.length : Int) > 500 then (some true) else ((vision_Sees.f a0_0 l0_1 0 true a1 a2_0 a2_1 a2_2 a2_3 a2_4 a2_5 a2_6 a2_7).bind fun bt194 => (if bt194.2 = 0 then (gazetteerlaw17_VisionStays.l0 k bt194.1 a1 l0_1 (l0_1.length : Int) 0 a0_0 l0_1 a2_0 a2_1 a2_2 a2_3 a2_4 a2_5 a2_6 a2_7 0 true a1) else (some (!bt194.1))))) else (some false))) = some r := h
  clear h
  replace H := Option.bind_eq_some_iff.mp H
  obtain ⟨t192, A40, H⟩ := H
  replace H : (if t192 = true then (if (l0_1.length : Int) > 500 then (some true) else ((vision_Sees.f a0_0 l0_1 0 true a1 a2_0 a2_1 a2_2 a2_3 a2_4 a2_5 a2_6 a2_7).bind fun bt194 => (if bt194.2 = 0 then (gazetteerlaw17_VisionStays.l0 k bt194.1 a1 l0_1 (l0_1.length : Int) 0 a0_0 l0_1 a2_0 a2_1 a2_2 a2_3 a2_4 a2_5 a2_6 a2_7 0 true a1) else (some (!bt194.1))))) else (some false)) = some r := H
  have A4 := Aside0.mk A40
  clear A40
  by_cases c5 : t192 = true
  · subst c5
    have H1 : (if (l0_1.length : Int) > 500 then (some true) else ((vision_Sees.f a0_0 l0_1 0 true a1 a2_0 a2_1 a2_2 a2_3 a2_4 a2_5 a2_6 a2_7).bind fun bt194 => (if bt194.2 = 0 then (gazetteerlaw17_VisionStays.l0 k bt194.1 a1 l0_1 (l0_1.length : Int) 0 a0_0 l0_1 a2_0 a2_1 a2_2 a2_3 a2_4 a2_5 a2_6 a2_7 0 true a1) else (some (!bt194.1))))) = some r := by rw [if_pos rfl] at H; exact H
    clear H
    have H := H1
    clear H1
    by_cases c6 : (l0_1.length : Int) > 500
    · rw [if_pos c6] at H
      have c6b0 : decide (500 < (l0_1.length : Int)) = true := decide_eq_true c6
      have c6b1 : decide (500 < l0_1.length) = true := decide_eq_true (by omega)
      clear c6
      obtain rfl := Option.some.inj H
      go_enter Try.func4, Try.ntmps4
      go_wp2_with (first | ((with_reducible refine gate_dst (N := 3) rfl ?_); refine box_event ?hg (N := 3) ?hd (cs := #[.int .u64 a0_0, .slice A0_1 l0_1.length c0_1]) (t := 25) ?hr ?_; (case hd => rfl); (case hg => rfl); (case hr => first | (go_simp; done) | (go_simp; rfl)); intro gb190 hg w7 hbox hb; have n0_ := Aside0.mk (below_step (by repeat (first | (with_reducible first | exact HB.out | apply below_alloc | apply pw_below_drewN | apply below_drew1) | exact HB.out)) hb); have n1_ := Aside0.mk (hbox); have n2_ := Aside0.mk ((by rw [hg]; exact (below_size (by repeat (first | (with_reducible first | exact HB.out | apply below_alloc | apply pw_below_drewN | apply below_drew1) | exact HB.out))) : w.heap.size ≤ gb190)); have n3_ := Aside0.mk ((by rw [hg]; exact (below_size (by repeat (first | (with_reducible first | exact HB.out | apply below_alloc | apply pw_below_drewN | apply below_drew1) | exact HB.out))) : w.heap.size ≤ gb190)); clear HB; have HB := n0_; have BK190 := n1_; have GW190 := n2_; have GE190 := n3_; clear n0_ n1_ n2_ n3_; clear hb hbox hg) | ((with_reducible refine gate_dst (N := 5) rfl ?_); refine box_event ?hg (N := 5) ?hd (cs := #[.int .u32 a2_0, .int .u64 a2_1, .int .u64 a2_2, .int .i64 a2_3, .int .i64 a2_4, .int .i64 a2_5, .int .i64 a2_6, .int .i64 a2_7]) (t := 32) ?hr ?_; (case hd => rfl); (case hg => rfl); (case hr => first | (go_simp; done) | (go_simp; rfl)); intro gb191 hg w8 hbox hb; have n0_ := Aside0.mk (blk_below (g := gb190) (o := .cells #[.int .u64 a0_0, .slice A0_1 l0_1.length c0_1] 25 (0, 0)) (by (with_reducible repeat (first | refine blk_drewN ?_ _ | refine blk_drew ?_ | refine blk_alloc ?_ _)); exact BK190.out) hb); have n1_ := Aside0.mk (below_step (by repeat (first | (with_reducible first | exact HB.out | apply below_alloc | apply pw_below_drewN | apply below_drew1 | refine below_set ?_ GE190.out) | exact HB.out)) hb); have n2_ := Aside0.mk (hbox); have n3_ := Aside0.mk ((by rw [hg]; exact (below_size (by repeat (first | (with_reducible first | exact HB.out | apply below_alloc | apply pw_below_drewN | apply below_drew1 | refine below_set ?_ GE190.out) | exact HB.out))) : w.heap.size ≤ gb191)); have n4_ := Aside0.mk ((by rw [hg]; exact (below_size (by repeat (first | (with_reducible first | exact HB.out | apply below_alloc | apply pw_below_drewN | apply below_drew1 | refine below_set ?_ GE190.out) | exact HB.out))) : w.heap.size ≤ gb191)); have n5_ := Aside0.mk ((by rw [hg]; exact Nat.ne_of_lt (blk_lt (g := gb190) (o := .cells #[.int .u64 a0_0, .slice A0_1 l0_1.length c0_1] 25 (0, 0)) (by (with_reducible repeat (first | refine blk_drewN ?_ _ | refine blk_drew ?_ | refine blk_alloc ?_ _)); exact BK190.out)) : gb190 ≠ gb191)); have n6_ := Aside0.mk ((by rw [hg]; exact Nat.ne_of_gt (blk_lt (g := gb190) (o := .cells #[.int .u64 a0_0, .slice A0_1 l0_1.length c0_1] 25 (0, 0)) (by (with_reducible repeat (first | refine blk_drewN ?_ _ | refine blk_drew ?_ | refine blk_alloc ?_ _)); exact BK190.out)) : gb191 ≠ gb190)); clear BK190; clear HB; have BK190 := n0_; have HB := n1_; have BK191 := n2_; have GW191 := n3_; have GE191 := n4_; have NB190_191 := n5_; have NB191_190 := n6_; clear n0_ n1_ n2_ n3_ n4_ n5_ n6_; clear hb hbox hg) | ((with_reducible refine gate_callee (f := 9) rfl ?_); refine goesL_ (some 17) rfl rfl Try.func9 (by kernel_rfl) rfl #[] rfl (by (try simp only [List.map_toArray, List.map_cons, List.map_nil]); first | done | rfl | (simp only [List.length_drop, List.length_take]; rfl)) ?_; (with_reducible refine (gazetteerlaw17_wakes.calls  true _ A4.out).mono ?_); rintro e w9 ⟨rfl, hb⟩; refine ⟨_, rfl, ?_⟩; have n0_ := Aside0.mk (blk_below (g := gb190) (o := .cells #[.int .u64 a0_0, .slice A0_1 l0_1.length c0_1] 25 (0, 0)) (by (with_reducible repeat (first | refine blk_drewN ?_ _ | refine blk_drew ?_ | refine blk_alloc ?_ _)); exact BK190.out) hb); have n1_ := Aside0.mk (blk_below (g := gb191) (o := .cells #[.int .u32 a2_0, .int .u64 a2_1, .int .u64 a2_2, .int .i64 a2_3, .int .i64 a2_4, .int .i64 a2_5, .int .i64 a2_6, .int .i64 a2_7] 32 (0, 0)) (by (with_reducible repeat (first | refine blk_drewN ?_ _ | refine blk_drew ?_ | refine blk_alloc ?_ _)); exact BK191.out) hb); have n2_ := Aside0.mk (below_step (by repeat (first | (with_reducible first | exact HB.out | apply below_alloc | apply pw_below_drewN | apply below_drew1 | refine below_set ?_ GE190.out | refine below_set ?_ GE191.out) | exact HB.out)) hb); clear BK190; clear BK191; clear HB; have BK190 := n0_; have BK191 := n1_; have HB := n2_; clear n0_ n1_ n2_; (try clear hb); (try clear hb2); (try clear hk); (try clear hi); have hnb10 := NB190_191.out; have hnc10 := NB191_190.out; have hcz11_0 : w9.cell? ⟨gb190, 0, none⟩ = some (.int .u64 a0_0) := (blk_cell BK190.out 0).trans rfl; have hcz11_1 : w9.cell? ⟨gb190, 1, none⟩ = some (.slice A0_1 l0_1.length c0_1) := (blk_cell BK190.out 1).trans rfl; have hfz11_0 := blk_frozen BK190.out 0; have hfz11_1 := blk_frozen BK190.out 1))
      go_ret
      exact ⟨by first | rfl | (simp [errW_none, errW_some] <;> rfl) | (simp [*, errW_none, errW_some] <;> rfl), by repeat (first | (with_reducible first | exact HB.out | apply below_alloc | apply pw_below_drewN | apply below_drew1 | refine below_set ?_ GE190.out | refine below_set ?_ GE191.out) | exact HB.out)⟩
    · rw [if_neg c6] at H
      have c6b0 : decide (500 < (l0_1.length : Int)) = false := decide_eq_false c6
      have c6b1 : decide (500 < l0_1.length) = false := decide_eq_false (by omega)
      clear c6
      replace H := Option.bind_eq_some_iff.mp H
      obtain ⟨⟨t194, t195⟩, A120, H⟩ := H
      replace H : (if t195 = 0 then (gazetteerlaw17_VisionStays.l0 k t194 a1 l0_1 (l0_1.length : Int) 0 a0_0 l0_1 a2_0 a2_1 a2_2 a2_3 a2_4 a2_5 a2_6 a2_7 0 true a1) else (some (!t194))) = some r := H
      have A12 := Aside0.mk A120
      clear A120
      by_cases c13 : t195 = 0
      · rw [if_pos c13] at H
        have c13b0 : (t195 == 0) = true := beq_iff_eq.mpr c13
        have c13b1 : (t195 != 0) = false := bne_eq_false_iff_eq.mpr c13
        clear c13
        have H' := Aside0.mk H
        clear H
        go_enter Try.func4, Try.ntmps4
        go_wp2_with (first | ((with_reducible refine gate_dst (N := 3) rfl ?_); refine box_event ?hg (N := 3) ?hd (cs := #[.int .u64 a0_0, .slice A0_1 l0_1.length c0_1]) (t := 25) ?hr ?_; (case hd => rfl); (case hg => rfl); (case hr => first | (go_simp; done) | (go_simp; rfl)); intro gb190 hg w14 hbox hb; have n0_ := Aside0.mk (below_step (by repeat (first | (with_reducible first | exact HB.out | apply below_alloc | apply pw_below_drewN | apply below_drew1) | exact HB.out)) hb); have n1_ := Aside0.mk (hbox); have n2_ := Aside0.mk ((by rw [hg]; exact (below_size (by repeat (first | (with_reducible first | exact HB.out | apply below_alloc | apply pw_below_drewN | apply below_drew1) | exact HB.out))) : w.heap.size ≤ gb190)); have n3_ := Aside0.mk ((by rw [hg]; exact (below_size (by repeat (first | (with_reducible first | exact HB.out | apply below_alloc | apply pw_below_drewN | apply below_drew1) | exact HB.out))) : w.heap.size ≤ gb190)); clear HB; have HB := n0_; have BK190 := n1_; have GW190 := n2_; have GE190 := n3_; clear n0_ n1_ n2_ n3_; clear hb hbox hg) | ((with_reducible refine gate_dst (N := 5) rfl ?_); refine box_event ?hg (N := 5) ?hd (cs := #[.int .u32 a2_0, .int .u64 a2_1, .int .u64 a2_2, .int .i64 a2_3, .int .i64 a2_4, .int .i64 a2_5, .int .i64 a2_6, .int .i64 a2_7]) (t := 32) ?hr ?_; (case hd => rfl); (case hg => rfl); (case hr => first | (go_simp; done) | (go_simp; rfl)); intro gb191 hg w15 hbox hb; have n0_ := Aside0.mk (blk_below (g := gb190) (o := .cells #[.int .u64 a0_0, .slice A0_1 l0_1.length c0_1] 25 (0, 0)) (by (with_reducible repeat (first | refine blk_drewN ?_ _ | refine blk_drew ?_ | refine blk_alloc ?_ _)); exact BK190.out) hb); have n1_ := Aside0.mk (below_step (by repeat (first | (with_reducible first | exact HB.out | apply below_alloc | apply pw_below_drewN | apply below_drew1 | refine below_set ?_ GE190.out) | exact HB.out)) hb); have n2_ := Aside0.mk (hbox); have n3_ := Aside0.mk ((by rw [hg]; exact (below_size (by repeat (first | (with_reducible first | exact HB.out | apply below_alloc | apply pw_below_drewN | apply below_drew1 | refine below_set ?_ GE190.out) | exact HB.out))) : w.heap.size ≤ gb191)); have n4_ := Aside0.mk ((by rw [hg]; exact (below_size (by repeat (first | (with_reducible first | exact HB.out | apply below_alloc | apply pw_below_drewN | apply below_drew1 | refine below_set ?_ GE190.out) | exact HB.out))) : w.heap.size ≤ gb191)); have n5_ := Aside0.mk ((by rw [hg]; exact Nat.ne_of_lt (blk_lt (g := gb190) (o := .cells #[.int .u64 a0_0, .slice A0_1 l0_1.length c0_1] 25 (0, 0)) (by (with_reducible repeat (first | refine blk_drewN ?_ _ | refine blk_drew ?_ | refine blk_alloc ?_ _)); exact BK190.out)) : gb190 ≠ gb191)); have n6_ := Aside0.mk ((by rw [hg]; exact Nat.ne_of_gt (blk_lt (g := gb190) (o := .cells #[.int .u64 a0_0, .slice A0_1 l0_1.length c0_1] 25 (0, 0)) (by (with_reducible repeat (first | refine blk_drewN ?_ _ | refine blk_drew ?_ | refine blk_alloc ?_ _)); exact BK190.out)) : gb191 ≠ gb190)); clear BK190; clear HB; have BK190 := n0_; have HB := n1_; have BK191 := n2_; have GW191 := n3_; have GE191 := n4_; have NB190_191 := n5_; have NB191_190 := n6_; clear n0_ n1_ n2_ n3_ n4_ n5_ n6_; clear hb hbox hg) | ((with_reducible refine gate_callee (f := 9) rfl ?_); refine goesL_ (some 17) rfl rfl Try.func9 (by kernel_rfl) rfl #[] rfl (by (try simp only [List.map_toArray, List.map_cons, List.map_nil]); first | done | rfl | (simp only [List.length_drop, List.length_take]; rfl)) ?_; (with_reducible refine (gazetteerlaw17_wakes.calls  true _ A4.out).mono ?_); rintro e w16 ⟨rfl, hb⟩; refine ⟨_, rfl, ?_⟩; have n0_ := Aside0.mk (blk_below (g := gb190) (o := .cells #[.int .u64 a0_0, .slice A0_1 l0_1.length c0_1] 25 (0, 0)) (by (with_reducible repeat (first | refine blk_drewN ?_ _ | refine blk_drew ?_ | refine blk_alloc ?_ _)); exact BK190.out) hb); have n1_ := Aside0.mk (blk_below (g := gb191) (o := .cells #[.int .u32 a2_0, .int .u64 a2_1, .int .u64 a2_2, .int .i64 a2_3, .int .i64 a2_4, .int .i64 a2_5, .int .i64 a2_6, .int .i64 a2_7] 32 (0, 0)) (by (with_reducible repeat (first | refine blk_drewN ?_ _ | refine blk_drew ?_ | refine blk_alloc ?_ _)); exact BK191.out) hb); have n2_ := Aside0.mk (below_step (by repeat (first | (with_reducible first | exact HB.out | apply below_alloc | apply pw_below_drewN | apply below_drew1 | refine below_set ?_ GE190.out | refine below_set ?_ GE191.out) | exact HB.out)) hb); clear BK190; clear BK191; clear HB; have BK190 := n0_; have BK191 := n1_; have HB := n2_; clear n0_ n1_ n2_; (try clear hb); (try clear hb2); (try clear hk); (try clear hi); have hnb17 := NB190_191.out; have hnc17 := NB191_190.out; have hcz18_0 : w16.cell? ⟨gb190, 0, none⟩ = some (.int .u64 a0_0) := (blk_cell BK190.out 0).trans rfl; have hcz18_1 : w16.cell? ⟨gb190, 1, none⟩ = some (.slice A0_1 l0_1.length c0_1) := (blk_cell BK190.out 1).trans rfl; have hfz18_0 := blk_frozen BK190.out 0; have hfz18_1 := blk_frozen BK190.out 1) | ((with_reducible refine gate_dst (N := 7) rfl ?_); refine box_event ?hg (N := 7) ?hd (cs := #[.int .u64 0, .bool false, .int .u64 0]) (t := 27) ?hr ?_; (case hd => rfl); (case hg => rfl); (case hr => first | (go_simp; done) | (go_simp; rfl)); intro gb193 hg w19 hbox hb; have n0_ := Aside0.mk (blk_below (g := gb190) (o := .cells #[.int .u64 a0_0, .slice A0_1 l0_1.length c0_1] 25 (0, 0)) (by (with_reducible repeat (first | refine blk_drewN ?_ _ | refine blk_drew ?_ | refine blk_alloc ?_ _)); exact BK190.out) hb); have n1_ := Aside0.mk (blk_below (g := gb191) (o := .cells #[.int .u32 a2_0, .int .u64 a2_1, .int .u64 a2_2, .int .i64 a2_3, .int .i64 a2_4, .int .i64 a2_5, .int .i64 a2_6, .int .i64 a2_7] 32 (0, 0)) (by (with_reducible repeat (first | refine blk_drewN ?_ _ | refine blk_drew ?_ | refine blk_alloc ?_ _)); exact BK191.out) hb); have n2_ := Aside0.mk (below_step (by repeat (first | (with_reducible first | exact HB.out | apply below_alloc | apply pw_below_drewN | apply below_drew1 | refine below_set ?_ GE190.out | refine below_set ?_ GE191.out) | exact HB.out)) hb); have n3_ := Aside0.mk (hbox); have n4_ := Aside0.mk ((by rw [hg]; exact (below_size (by repeat (first | (with_reducible first | exact HB.out | apply below_alloc | apply pw_below_drewN | apply below_drew1 | refine below_set ?_ GE190.out | refine below_set ?_ GE191.out) | exact HB.out))) : w.heap.size ≤ gb193)); have n5_ := Aside0.mk ((by rw [hg]; exact (below_size (by repeat (first | (with_reducible first | exact HB.out | apply below_alloc | apply pw_below_drewN | apply below_drew1 | refine below_set ?_ GE190.out | refine below_set ?_ GE191.out) | exact HB.out))) : w.heap.size ≤ gb193)); have n6_ := Aside0.mk ((by rw [hg]; exact Nat.ne_of_lt (blk_lt (g := gb190) (o := .cells #[.int .u64 a0_0, .slice A0_1 l0_1.length c0_1] 25 (0, 0)) (by (with_reducible repeat (first | refine blk_drewN ?_ _ | refine blk_drew ?_ | refine blk_alloc ?_ _)); exact BK190.out)) : gb190 ≠ gb193)); have n7_ := Aside0.mk ((by rw [hg]; exact Nat.ne_of_gt (blk_lt (g := gb190) (o := .cells #[.int .u64 a0_0, .slice A0_1 l0_1.length c0_1] 25 (0, 0)) (by (with_reducible repeat (first | refine blk_drewN ?_ _ | refine blk_drew ?_ | refine blk_alloc ?_ _)); exact BK190.out)) : gb193 ≠ gb190)); have n8_ := Aside0.mk ((by rw [hg]; exact Nat.ne_of_lt (blk_lt (g := gb191) (o := .cells #[.int .u32 a2_0, .int .u64 a2_1, .int .u64 a2_2, .int .i64 a2_3, .int .i64 a2_4, .int .i64 a2_5, .int .i64 a2_6, .int .i64 a2_7] 32 (0, 0)) (by (with_reducible repeat (first | refine blk_drewN ?_ _ | refine blk_drew ?_ | refine blk_alloc ?_ _)); exact BK191.out)) : gb191 ≠ gb193)); have n9_ := Aside0.mk ((by rw [hg]; exact Nat.ne_of_gt (blk_lt (g := gb191) (o := .cells #[.int .u32 a2_0, .int .u64 a2_1, .int .u64 a2_2, .int .i64 a2_3, .int .i64 a2_4, .int .i64 a2_5, .int .i64 a2_6, .int .i64 a2_7] 32 (0, 0)) (by (with_reducible repeat (first | refine blk_drewN ?_ _ | refine blk_drew ?_ | refine blk_alloc ?_ _)); exact BK191.out)) : gb193 ≠ gb191)); clear BK190; clear BK191; clear HB; have BK190 := n0_; have BK191 := n1_; have HB := n2_; have BK193 := n3_; have GW193 := n4_; have GE193 := n5_; have NB190_193 := n6_; have NB193_190 := n7_; have NB191_193 := n8_; have NB193_191 := n9_; clear n0_ n1_ n2_ n3_ n4_ n5_ n6_ n7_ n8_ n9_; clear hb hbox hg; have hnb20 := NB193_190.out; have hnc20 := NB190_193.out; have hnb21 := NB193_191.out; have hnc21 := NB191_193.out; have hcz22_0 : w19.cell? ⟨gb193, 0, none⟩ = some (.int .u64 0) := (blk_cell BK193.out 0).trans rfl; have hcz22_1 : w19.cell? ⟨gb193, 1, none⟩ = some (.bool false) := (blk_cell BK193.out 1).trans rfl; have hcz22_2 : w19.cell? ⟨gb193, 2, none⟩ = some (.int .u64 0) := (blk_cell BK193.out 2).trans rfl; have hfz22_0 := blk_frozen BK193.out 0; have hfz22_1 := blk_frozen BK193.out 1; have hfz22_2 := blk_frozen BK193.out 2; have hcz23_0 : w19.cell? ⟨gb190, 0, none⟩ = some (.int .u64 a0_0) := (blk_cell BK190.out 0).trans rfl; have hcz23_1 : w19.cell? ⟨gb190, 1, none⟩ = some (.slice A0_1 l0_1.length c0_1) := (blk_cell BK190.out 1).trans rfl; have hfz23_0 := blk_frozen BK190.out 0; have hfz23_1 := blk_frozen BK190.out 1; have hcz24_0 : w19.cell? ⟨gb191, 0, none⟩ = some (.int .u32 a2_0) := (blk_cell BK191.out 0).trans rfl; have hcz24_1 : w19.cell? ⟨gb191, 1, none⟩ = some (.int .u64 a2_1) := (blk_cell BK191.out 1).trans rfl; have hcz24_2 : w19.cell? ⟨gb191, 2, none⟩ = some (.int .u64 a2_2) := (blk_cell BK191.out 2).trans rfl; have hcz24_3 : w19.cell? ⟨gb191, 3, none⟩ = some (.int .i64 a2_3) := (blk_cell BK191.out 3).trans rfl; have hcz24_4 : w19.cell? ⟨gb191, 4, none⟩ = some (.int .i64 a2_4) := (blk_cell BK191.out 4).trans rfl; have hcz24_5 : w19.cell? ⟨gb191, 5, none⟩ = some (.int .i64 a2_5) := (blk_cell BK191.out 5).trans rfl; have hcz24_6 : w19.cell? ⟨gb191, 6, none⟩ = some (.int .i64 a2_6) := (blk_cell BK191.out 6).trans rfl; have hcz24_7 : w19.cell? ⟨gb191, 7, none⟩ = some (.int .i64 a2_7) := (blk_cell BK191.out 7).trans rfl; have hfz24_0 := blk_frozen BK191.out 0; have hfz24_1 := blk_frozen BK191.out 1; have hfz24_2 := blk_frozen BK191.out 2; have hfz24_3 := blk_frozen BK191.out 3; have hfz24_4 := blk_frozen BK191.out 4; have hfz24_5 := blk_frozen BK191.out 5; have hfz24_6 := blk_frozen BK191.out 6; have hfz24_7 := blk_frozen BK191.out 7) | ((with_reducible refine gate_callee (f := 12) rfl ?_); refine goesL_ (some 29) rfl rfl Try.func12 (by kernel_rfl) rfl #[.agg #[.int .u64 a0_0, .slice A0_1 l0_1.length c0_1], .agg #[.int .u64 0, .bool true, .int .u64 a1], .agg #[.int .u32 a2_0, .int .u64 a2_1, .int .u64 a2_2, .int .i64 a2_3, .int .i64 a2_4, .int .i64 a2_5, .int .i64 a2_6, .int .i64 a2_7]] rfl (by (try simp only [List.map_toArray, List.map_cons, List.map_nil]); first | done | rfl | (simp only [List.length_drop, List.length_take]; rfl)) ?_; (with_reducible refine (vision_Sees.calls a0_0 _ _ l0_1 0 true a1 a2_0 a2_1 a2_2 a2_3 a2_4 a2_5 a2_6 a2_7 t194 t195 _ ?side1 ?side2 A12.out).mono ?_); (case side1 => exact Kd.C_below HR0_1.out (by repeat (first | (with_reducible first | exact HB.out | apply below_alloc | apply pw_below_drewN | apply below_drew1 | refine below_set ?_ GE190.out | refine below_set ?_ GE191.out | refine below_set ?_ GE193.out) | exact HB.out))); (case side2 => exact HC0_1.out); rintro e w25 ⟨rfl, hb⟩; refine ⟨_, rfl, ?_⟩; have n0_ := Aside0.mk (blk_below (g := gb190) (o := .cells #[.int .u64 a0_0, .slice A0_1 l0_1.length c0_1] 25 (0, 0)) (by (with_reducible repeat (first | refine blk_drewN ?_ _ | refine blk_drew ?_ | refine blk_alloc ?_ _)); refine blk_far ?_ NB190_193.out _; (with_reducible repeat (first | refine blk_drewN ?_ _ | refine blk_drew ?_ | refine blk_alloc ?_ _)); refine blk_far ?_ NB190_193.out _; (with_reducible repeat (first | refine blk_drewN ?_ _ | refine blk_drew ?_ | refine blk_alloc ?_ _)); refine blk_far ?_ NB190_193.out _; (with_reducible repeat (first | refine blk_drewN ?_ _ | refine blk_drew ?_ | refine blk_alloc ?_ _)); exact BK190.out) hb); have n1_ := Aside0.mk (blk_below (g := gb191) (o := .cells #[.int .u32 a2_0, .int .u64 a2_1, .int .u64 a2_2, .int .i64 a2_3, .int .i64 a2_4, .int .i64 a2_5, .int .i64 a2_6, .int .i64 a2_7] 32 (0, 0)) (by (with_reducible repeat (first | refine blk_drewN ?_ _ | refine blk_drew ?_ | refine blk_alloc ?_ _)); refine blk_far ?_ NB191_193.out _; (with_reducible repeat (first | refine blk_drewN ?_ _ | refine blk_drew ?_ | refine blk_alloc ?_ _)); refine blk_far ?_ NB191_193.out _; (with_reducible repeat (first | refine blk_drewN ?_ _ | refine blk_drew ?_ | refine blk_alloc ?_ _)); refine blk_far ?_ NB191_193.out _; (with_reducible repeat (first | refine blk_drewN ?_ _ | refine blk_drew ?_ | refine blk_alloc ?_ _)); exact BK191.out) hb); have n2_ := Aside0.mk (blk_below (g := gb193) (o := .cells #[.int .u64 0, .bool true, .int .u64 a1] 27 (0, 0)) (by (with_reducible repeat (first | refine blk_drewN ?_ _ | refine blk_drew ?_ | refine blk_alloc ?_ _)); refine blk_put (cs := #[.int .u64 0, .bool true, .int .u64 0]) ?_ 2 _ rfl; (with_reducible repeat (first | refine blk_drewN ?_ _ | refine blk_drew ?_ | refine blk_alloc ?_ _)); refine blk_put (cs := #[.int .u64 0, .bool false, .int .u64 0]) ?_ 1 _ rfl; (with_reducible repeat (first | refine blk_drewN ?_ _ | refine blk_drew ?_ | refine blk_alloc ?_ _)); refine blk_put (cs := #[.int .u64 0, .bool false, .int .u64 0]) ?_ 0 _ rfl; (with_reducible repeat (first | refine blk_drewN ?_ _ | refine blk_drew ?_ | refine blk_alloc ?_ _)); exact BK193.out) hb); have n3_ := Aside0.mk (below_step (by repeat (first | (with_reducible first | exact HB.out | apply below_alloc | apply pw_below_drewN | apply below_drew1 | refine below_set ?_ GE190.out | refine below_set ?_ GE191.out | refine below_set ?_ GE193.out) | exact HB.out)) hb); clear BK190; clear BK191; clear BK193; clear HB; have BK190 := n0_; have BK191 := n1_; have BK193 := n2_; have HB := n3_; clear n0_ n1_ n2_ n3_; (try clear hb); (try clear hb2); (try clear hk); (try clear hi); have hcz26_0 : w25.cell? ⟨gb190, 0, none⟩ = some (.int .u64 a0_0) := (blk_cell BK190.out 0).trans rfl; have hcz26_1 : w25.cell? ⟨gb190, 1, none⟩ = some (.slice A0_1 l0_1.length c0_1) := (blk_cell BK190.out 1).trans rfl; have hfz26_0 := blk_frozen BK190.out 0; have hfz26_1 := blk_frozen BK190.out 1))
        go_loopg [10, 40] k (fun kq v10 v40 w' => ∃ (x10_1 : Int) (x40_1 : Int), v10 = .int .u64 x10_1 ∧ v40 = .int .i64 x40_1 ∧ Aside0 (gazetteerlaw17_VisionStays.l0 kq t194 x10_1 l0_1 (l0_1.length : Int) x40_1 a0_0 l0_1 a2_0 a2_1 a2_2 a2_3 a2_4 a2_5 a2_6 a2_7 0 true a1 = some r) ∧ Aside0 (kq ≤ k) ∧ Aside0 (w'.heap[gb190]? = some (.cells #[.int .u64 a0_0, (.slice A0_1 l0_1.length c0_1)] 25 (0, 0))) ∧ Aside0 (w'.heap[gb191]? = some (.cells #[.int .u32 a2_0, .int .u64 a2_1, .int .u64 a2_2, .int .i64 a2_3, .int .i64 a2_4, .int .i64 a2_5, .int .i64 a2_6, .int .i64 a2_7] 32 (0, 0))) ∧ Aside0 (w'.heap[gb193]? = some (.cells #[.int .u64 0, .bool true, .int .u64 a1] 27 (0, 0))) ∧ Aside0 (Below w.heap.size w w'))
        case atStart => exact ⟨(a1), (0), (by first | rfl | (simp; done) | (simp [*]; done)), (by first | rfl | (simp; done) | (simp [*]; done)), H', ⟨Nat.le_refl _⟩, ⟨by (with_reducible repeat (first | refine blk_drewN ?_ _ | refine blk_drew ?_ | refine blk_alloc ?_ _)); exact BK190.out⟩, ⟨by (with_reducible repeat (first | refine blk_drewN ?_ _ | refine blk_drew ?_ | refine blk_alloc ?_ _)); exact BK191.out⟩, ⟨by (with_reducible repeat (first | refine blk_drewN ?_ _ | refine blk_drew ?_ | refine blk_alloc ?_ _)); exact BK193.out⟩, ⟨by repeat (first | (with_reducible first | exact HB.out | apply below_alloc | apply pw_below_drewN | apply below_drew1 | refine below_set ?_ GE190.out | refine below_set ?_ GE191.out | refine below_set ?_ GE193.out) | exact HB.out)⟩⟩
        case round =>
          clear H'
          try clear c1
          try clear c2
          try clear p2
          try clear c4
          try clear c5
          try clear c6
          try clear c6b0
          try clear c6b1
          try clear c9
          try clear c10
          try clear c12
          try clear c13
          try clear c13b0
          try clear c13b1
          try clear c17
          try clear c20
          try clear c21
          try clear hcz11_0
          try clear hcz11_1
          try clear hcz18_0
          try clear hcz18_1
          try clear hcz22_0
          try clear hcz22_1
          try clear hcz22_2
          try clear hcz23_0
          try clear hcz23_1
          try clear hcz24_0
          try clear hcz24_1
          try clear hcz24_2
          try clear hcz24_3
          try clear hcz24_4
          try clear hcz24_5
          try clear hcz24_6
          try clear hcz24_7
          try clear hcz26_0
          try clear hcz26_1
          try clear hfz11_0
          try clear hfz11_1
          try clear hfz18_0
          try clear hfz18_1
          try clear hfz22_0
          try clear hfz22_1
          try clear hfz22_2
          try clear hfz23_0
          try clear hfz23_1
          try clear hfz24_0
          try clear hfz24_1
          try clear hfz24_2
          try clear hfz24_3
          try clear hfz24_4
          try clear hfz24_5
          try clear hfz24_6
          try clear hfz24_7
          try clear hfz26_0
          try clear hfz26_1
          obtain ⟨x10_1, x40_1, rfl, rfl, HA, HK1, BK190, BK191, BK193, HB⟩ := hrel
          cases gk with
          | zero => exact absurd HA.out (by simp [gazetteerlaw17_VisionStays.l0])
          | succ k1 =>
            have H := HA.out
            clear HA
            simp only [gazetteerlaw17_VisionStays.l0] at H
            by_cases c27 : x40_1 < (l0_1.length : Int)
            · rw [if_pos c27] at H
              have c27b0 : decide (x40_1 < (l0_1.length : Int)) = true := decide_eq_true c27
              clear c27
              by_cases c28 : 0 ≤ x40_1
              · rw [if_pos c28] at H
                have c28b0 : decide (0 ≤ x40_1) = true := decide_eq_true c28
                clear c28
                by_cases c29 : x40_1 < (l0_1.length : Int)
                · rw [if_pos c29] at H
                  have c29b0 : decide (x40_1 < (l0_1.length : Int)) = true := decide_eq_true c29
                  clear c29
                  obtain ⟨ji30, hji30⟩ : ∃ j_ : Int, (mx x10_1 ((rd_T44 l0_1 x40_1).f1)) = j_ := ⟨_, rfl⟩
                  replace H : (gazetteerlaw17_VisionStays.l0 k1 t194 ji30 l0_1 (l0_1.length : Int) (wrap64 (x40_1 + 1)) a0_0 l0_1 a2_0 a2_1 a2_2 a2_3 a2_4 a2_5 a2_6 a2_7 0 true a1) = some r := by first | (rw [hji30] at H; exact H) | (simp only [hji30] at H ⊢; exact H)
                  have hji30_ : (if x10_1 < ((rd_T44 l0_1 x40_1).f1) then ((rd_T44 l0_1 x40_1).f1) else x10_1) = ji30 := hji30
                  have H' := Aside0.mk H
                  clear H
                  have p196 : 0 ≤ (x40_1 : Int) := of_decide_eq_true (by first | (with_reducible assumption) | assumption)
                  have q196 : x40_1 < (l0_1.length : Int) := of_decide_eq_true (by first | (with_reducible assumption) | assumption)
                  obtain ⟨ad196, e196, hx196_0, hx196_1⟩ := at_T44 HR0_1.out x40_1 p196 q196
                  cases e196
                  replace hx196_0 := (HB.out.cell (World.block_lt_of_cell? w _ hx196_0)).trans hx196_0
                  replace hx196_1 := (HB.out.cell (World.block_lt_of_cell? w _ hx196_1)).trans hx196_1
                  replace p196 := eq_true p196
                  replace q196 := eq_true q196
                  go_wp2_with (first | ((with_reducible refine gate_dst (N := 12) rfl ?_); refine box_event ?hg (N := 12) ?hd (cs := #[.int .u64 0, .int .u64 0]) (t := 44) ?hr ?_; (case hd => rfl); (case hg => rfl); (case hr => first | (go_simp; done) | (go_simp; rfl)); intro gb197 hg w31 hbox hb; have n0_ := Aside0.mk (blk_below (g := gb190) (o := .cells #[.int .u64 a0_0, .slice (some ad196) l0_1.length c0_1] 25 (0, 0)) (by (with_reducible repeat (first | refine blk_drewN ?_ _ | refine blk_drew ?_ | refine blk_alloc ?_ _)); exact BK190.out) hb); have n1_ := Aside0.mk (blk_below (g := gb191) (o := .cells #[.int .u32 a2_0, .int .u64 a2_1, .int .u64 a2_2, .int .i64 a2_3, .int .i64 a2_4, .int .i64 a2_5, .int .i64 a2_6, .int .i64 a2_7] 32 (0, 0)) (by (with_reducible repeat (first | refine blk_drewN ?_ _ | refine blk_drew ?_ | refine blk_alloc ?_ _)); exact BK191.out) hb); have n2_ := Aside0.mk (blk_below (g := gb193) (o := .cells #[.int .u64 0, .bool true, .int .u64 a1] 27 (0, 0)) (by (with_reducible repeat (first | refine blk_drewN ?_ _ | refine blk_drew ?_ | refine blk_alloc ?_ _)); exact BK193.out) hb); have n3_ := Aside0.mk (below_step (by repeat (first | (with_reducible first | exact HB.out | apply below_alloc | apply pw_below_drewN | apply below_drew1 | refine below_set ?_ GE190.out | refine below_set ?_ GE191.out | refine below_set ?_ GE193.out) | exact HB.out)) hb); have n4_ := Aside0.mk (hbox); have n5_ := Aside0.mk ((by rw [hg]; exact (below_size (by repeat (first | (with_reducible first | exact HB.out | apply below_alloc | apply pw_below_drewN | apply below_drew1 | refine below_set ?_ GE190.out | refine below_set ?_ GE191.out | refine below_set ?_ GE193.out) | exact HB.out))) : w.heap.size ≤ gb197)); have n6_ := Aside0.mk ((by rw [hg]; exact (below_size (by repeat (first | (with_reducible first | exact HB.out | apply below_alloc | apply pw_below_drewN | apply below_drew1 | refine below_set ?_ GE190.out | refine below_set ?_ GE191.out | refine below_set ?_ GE193.out) | exact HB.out))) : w.heap.size ≤ gb197)); have n7_ := Aside0.mk ((by rw [hg]; exact Nat.ne_of_lt (blk_lt (g := gb190) (o := .cells #[.int .u64 a0_0, .slice (some ad196) l0_1.length c0_1] 25 (0, 0)) (by (with_reducible repeat (first | refine blk_drewN ?_ _ | refine blk_drew ?_ | refine blk_alloc ?_ _)); exact BK190.out)) : gb190 ≠ gb197)); have n8_ := Aside0.mk ((by rw [hg]; exact Nat.ne_of_gt (blk_lt (g := gb190) (o := .cells #[.int .u64 a0_0, .slice (some ad196) l0_1.length c0_1] 25 (0, 0)) (by (with_reducible repeat (first | refine blk_drewN ?_ _ | refine blk_drew ?_ | refine blk_alloc ?_ _)); exact BK190.out)) : gb197 ≠ gb190)); have n9_ := Aside0.mk ((by rw [hg]; exact Nat.ne_of_lt (blk_lt (g := gb191) (o := .cells #[.int .u32 a2_0, .int .u64 a2_1, .int .u64 a2_2, .int .i64 a2_3, .int .i64 a2_4, .int .i64 a2_5, .int .i64 a2_6, .int .i64 a2_7] 32 (0, 0)) (by (with_reducible repeat (first | refine blk_drewN ?_ _ | refine blk_drew ?_ | refine blk_alloc ?_ _)); exact BK191.out)) : gb191 ≠ gb197)); have n10_ := Aside0.mk ((by rw [hg]; exact Nat.ne_of_gt (blk_lt (g := gb191) (o := .cells #[.int .u32 a2_0, .int .u64 a2_1, .int .u64 a2_2, .int .i64 a2_3, .int .i64 a2_4, .int .i64 a2_5, .int .i64 a2_6, .int .i64 a2_7] 32 (0, 0)) (by (with_reducible repeat (first | refine blk_drewN ?_ _ | refine blk_drew ?_ | refine blk_alloc ?_ _)); exact BK191.out)) : gb197 ≠ gb191)); have n11_ := Aside0.mk ((by rw [hg]; exact Nat.ne_of_lt (blk_lt (g := gb193) (o := .cells #[.int .u64 0, .bool true, .int .u64 a1] 27 (0, 0)) (by (with_reducible repeat (first | refine blk_drewN ?_ _ | refine blk_drew ?_ | refine blk_alloc ?_ _)); exact BK193.out)) : gb193 ≠ gb197)); have n12_ := Aside0.mk ((by rw [hg]; exact Nat.ne_of_gt (blk_lt (g := gb193) (o := .cells #[.int .u64 0, .bool true, .int .u64 a1] 27 (0, 0)) (by (with_reducible repeat (first | refine blk_drewN ?_ _ | refine blk_drew ?_ | refine blk_alloc ?_ _)); exact BK193.out)) : gb197 ≠ gb193)); clear BK190; clear BK191; clear BK193; clear HB; have BK190 := n0_; have BK191 := n1_; have BK193 := n2_; have HB := n3_; have BK197 := n4_; have GW197 := n5_; have GE197 := n6_; have NB190_197 := n7_; have NB197_190 := n8_; have NB191_197 := n9_; have NB197_191 := n10_; have NB193_197 := n11_; have NB197_193 := n12_; clear n0_ n1_ n2_ n3_ n4_ n5_ n6_ n7_ n8_ n9_ n10_ n11_ n12_; clear hb hbox hg; have hnb32 := NB197_190.out; have hnc32 := NB190_197.out; have hnb33 := NB197_191.out; have hnc33 := NB191_197.out; have hnb34 := NB197_193.out; have hnc34 := NB193_197.out; have hcz35_0 : w31.cell? ⟨gb197, 0, none⟩ = some (.int .u64 0) := (blk_cell BK197.out 0).trans rfl; have hcz35_1 : w31.cell? ⟨gb197, 1, none⟩ = some (.int .u64 0) := (blk_cell BK197.out 1).trans rfl; have hfz35_0 := blk_frozen BK197.out 0; have hfz35_1 := blk_frozen BK197.out 1))
                  go_roundg k1
                  case measure => have := HK1.out; omega
                  case rel => exact ⟨(ji30), (wrap64 (x40_1 + 1)), (by first | rfl | (simp; done) | (simp only [← hji30] <;> (first | rfl | simp)) | (simp [*]; done)), (by first | rfl | (simp; done) | (simp [*]; done)), H', ⟨by have := HK1.out; omega⟩, ⟨by (with_reducible repeat (first | refine blk_drewN ?_ _ | refine blk_drew ?_ | refine blk_alloc ?_ _)); refine blk_far ?_ NB190_197.out _; (with_reducible repeat (first | refine blk_drewN ?_ _ | refine blk_drew ?_ | refine blk_alloc ?_ _)); refine blk_far ?_ NB190_197.out _; (with_reducible repeat (first | refine blk_drewN ?_ _ | refine blk_drew ?_ | refine blk_alloc ?_ _)); exact BK190.out⟩, ⟨by (with_reducible repeat (first | refine blk_drewN ?_ _ | refine blk_drew ?_ | refine blk_alloc ?_ _)); refine blk_far ?_ NB191_197.out _; (with_reducible repeat (first | refine blk_drewN ?_ _ | refine blk_drew ?_ | refine blk_alloc ?_ _)); refine blk_far ?_ NB191_197.out _; (with_reducible repeat (first | refine blk_drewN ?_ _ | refine blk_drew ?_ | refine blk_alloc ?_ _)); exact BK191.out⟩, ⟨by (with_reducible repeat (first | refine blk_drewN ?_ _ | refine blk_drew ?_ | refine blk_alloc ?_ _)); refine blk_far ?_ NB193_197.out _; (with_reducible repeat (first | refine blk_drewN ?_ _ | refine blk_drew ?_ | refine blk_alloc ?_ _)); refine blk_far ?_ NB193_197.out _; (with_reducible repeat (first | refine blk_drewN ?_ _ | refine blk_drew ?_ | refine blk_alloc ?_ _)); exact BK193.out⟩, ⟨by repeat (first | (with_reducible first | exact HB.out | apply below_alloc | apply pw_below_drewN | apply below_drew1 | refine below_set ?_ GE190.out | refine below_set ?_ GE191.out | refine below_set ?_ GE193.out | refine below_set ?_ GE197.out) | exact HB.out)⟩⟩
                · rw [if_neg c29] at H
                  exact absurd H (by simp)
              · rw [if_neg c28] at H
                exact absurd H (by simp)
            · rw [if_neg c27] at H
              have c27b0 : decide (x40_1 < (l0_1.length : Int)) = false := decide_eq_false c27
              clear c27
              by_cases c36 : x10_1 > 9223372036854775808
              · rw [if_pos c36] at H
                have c36b0 : decide (9223372036854775808 < x10_1) = true := decide_eq_true c36
                clear c36
                obtain rfl := Option.some.inj H
                go_wp2
                go_ret
                exact ⟨by first | rfl | (simp [errW_none, errW_some] <;> rfl) | (simp [*, errW_none, errW_some] <;> rfl), by repeat (first | (with_reducible first | exact HB.out | apply below_alloc | apply pw_below_drewN | apply below_drew1 | refine below_set ?_ GE190.out | refine below_set ?_ GE191.out | refine below_set ?_ GE193.out) | exact HB.out)⟩
              · rw [if_neg c36] at H
                have c36b0 : decide (9223372036854775808 < x10_1) = false := decide_eq_false c36
                clear c36
                replace H := Option.bind_eq_some_iff.mp H
                obtain ⟨⟨t198, t199⟩, A370, H⟩ := H
                replace H : (gazetteerlaw17_VisionStays.l1 k1 t194 x10_1 (t199.length : Int) 0 a2_0 a2_1 a2_2 a2_3 a2_4 a2_5 a2_6 a2_7 0 true a1 t198 t199) = some r := H
                have A37 := Aside0.mk A370
                clear A370
                have H' := Aside0.mk H
                clear H
                have hnb38 := NB190_191.out
                have hnc38 := NB191_190.out
                have hnb39 := NB190_193.out
                have hnc39 := NB193_190.out
                have hcz40_0 : wr.cell? ⟨gb190, 0, none⟩ = some (.int .u64 a0_0) := (blk_cell BK190.out 0).trans rfl
                have hcz40_1 : wr.cell? ⟨gb190, 1, none⟩ = some (.slice A0_1 l0_1.length c0_1) := (blk_cell BK190.out 1).trans rfl
                have hfz40_0 := blk_frozen BK190.out 0
                have hfz40_1 := blk_frozen BK190.out 1
                go_wp2_with (first | ((with_reducible refine gate_callee (f := 11) rfl ?_); refine goesL_ (some 52) rfl rfl Try.func11 (by kernel_rfl) rfl #[.agg #[.int .u64 a0_0, .slice A0_1 l0_1.length c0_1]] rfl (by (try simp only [List.map_toArray, List.map_cons, List.map_nil]); first | done | rfl | (simp only [List.length_drop, List.length_take]; rfl)) ?_; (with_reducible refine (gazetteerlaw17_copied.calls a0_0 _ _ l0_1 t198 t199 _ ?side1 ?side2 A37.out).mono ?_); (case side1 => repeat (first | exact (Kd.C_below HR0_1.out HB.out) | (with_reducible refine Kd.C_alloc ?_ _) | (with_reducible refine Kd.C_drewN ?_ _) | (with_reducible refine Kd.C_drew ?_))); (case side2 => exact HC0_1.out); rintro e w41 ⟨v200, rfl, ho0, hb⟩; refine ⟨_, rfl, ?_⟩; have n0_ := Aside0.mk (Kd.R_lower ho0 (below_size (by repeat (first | (with_reducible first | exact HB.out | apply below_alloc | apply pw_below_drewN | apply below_drew1 | refine below_set ?_ GE190.out | refine below_set ?_ GE191.out | refine below_set ?_ GE193.out) | exact HB.out)))); have n1_ := Aside0.mk (blk_below (g := gb190) (o := .cells #[.int .u64 a0_0, .slice A0_1 l0_1.length c0_1] 25 (0, 0)) (by (with_reducible repeat (first | refine blk_drewN ?_ _ | refine blk_drew ?_ | refine blk_alloc ?_ _)); exact BK190.out) hb); have n2_ := Aside0.mk (blk_below (g := gb191) (o := .cells #[.int .u32 a2_0, .int .u64 a2_1, .int .u64 a2_2, .int .i64 a2_3, .int .i64 a2_4, .int .i64 a2_5, .int .i64 a2_6, .int .i64 a2_7] 32 (0, 0)) (by (with_reducible repeat (first | refine blk_drewN ?_ _ | refine blk_drew ?_ | refine blk_alloc ?_ _)); exact BK191.out) hb); have n3_ := Aside0.mk (blk_below (g := gb193) (o := .cells #[.int .u64 0, .bool true, .int .u64 a1] 27 (0, 0)) (by (with_reducible repeat (first | refine blk_drewN ?_ _ | refine blk_drew ?_ | refine blk_alloc ?_ _)); exact BK193.out) hb); have n4_ := Aside0.mk (below_step (by repeat (first | (with_reducible first | exact HB.out | apply below_alloc | apply pw_below_drewN | apply below_drew1 | refine below_set ?_ GE190.out | refine below_set ?_ GE191.out | refine below_set ?_ GE193.out) | exact HB.out)) hb); clear BK190; clear BK191; clear BK193; clear HB; have HO201 := n0_; have BK190 := n1_; have BK191 := n2_; have BK193 := n3_; have HB := n4_; clear n0_ n1_ n2_ n3_ n4_; (try clear hb); (try clear hb2); (try clear hk); (try clear hi); (try clear ho0)) | ((with_reducible refine gate_dst (N := 13) rfl ?_); refine box_event ?hg (N := 13) ?hd (cs := #[.int .u64 0, .slice none 0 0]) (t := 25) ?hr ?_; (case hd => rfl); (case hg => rfl); (case hr => first | (go_simp; done) | (go_simp; rfl)); intro gb202 hg w42 hbox hb; have n0_ := Aside0.mk (Kd.R_below (by (with_reducible repeat (first | apply Kd.R_alloc | apply Kd.R_drewN | apply Kd.R_drew)); exact HO201.out) hb); have n1_ := Aside0.mk (blk_below (g := gb190) (o := .cells #[.int .u64 a0_0, .slice A0_1 l0_1.length c0_1] 25 (0, 0)) (by (with_reducible repeat (first | refine blk_drewN ?_ _ | refine blk_drew ?_ | refine blk_alloc ?_ _)); exact BK190.out) hb); have n2_ := Aside0.mk (blk_below (g := gb191) (o := .cells #[.int .u32 a2_0, .int .u64 a2_1, .int .u64 a2_2, .int .i64 a2_3, .int .i64 a2_4, .int .i64 a2_5, .int .i64 a2_6, .int .i64 a2_7] 32 (0, 0)) (by (with_reducible repeat (first | refine blk_drewN ?_ _ | refine blk_drew ?_ | refine blk_alloc ?_ _)); exact BK191.out) hb); have n3_ := Aside0.mk (blk_below (g := gb193) (o := .cells #[.int .u64 0, .bool true, .int .u64 a1] 27 (0, 0)) (by (with_reducible repeat (first | refine blk_drewN ?_ _ | refine blk_drew ?_ | refine blk_alloc ?_ _)); exact BK193.out) hb); have n4_ := Aside0.mk (below_step (by repeat (first | (with_reducible first | exact HB.out | apply below_alloc | apply pw_below_drewN | apply below_drew1 | refine below_set ?_ GE190.out | refine below_set ?_ GE191.out | refine below_set ?_ GE193.out) | exact HB.out)) hb); have n5_ := Aside0.mk (hbox); have n6_ := Aside0.mk ((by rw [hg]; exact (below_size (by repeat (first | (with_reducible first | exact HB.out | apply below_alloc | apply pw_below_drewN | apply below_drew1 | refine below_set ?_ GE190.out | refine below_set ?_ GE191.out | refine below_set ?_ GE193.out) | exact HB.out))) : w.heap.size ≤ gb202)); have n7_ := Aside0.mk ((by rw [hg]; exact (below_size (by repeat (first | (with_reducible first | exact HB.out | apply below_alloc | apply pw_below_drewN | apply below_drew1 | refine below_set ?_ GE190.out | refine below_set ?_ GE191.out | refine below_set ?_ GE193.out) | exact HB.out))) : w.heap.size ≤ gb202)); have n8_ := Aside0.mk ((by rw [hg]; exact Nat.ne_of_lt (blk_lt (g := gb190) (o := .cells #[.int .u64 a0_0, .slice A0_1 l0_1.length c0_1] 25 (0, 0)) (by (with_reducible repeat (first | refine blk_drewN ?_ _ | refine blk_drew ?_ | refine blk_alloc ?_ _)); exact BK190.out)) : gb190 ≠ gb202)); have n9_ := Aside0.mk ((by rw [hg]; exact Nat.ne_of_gt (blk_lt (g := gb190) (o := .cells #[.int .u64 a0_0, .slice A0_1 l0_1.length c0_1] 25 (0, 0)) (by (with_reducible repeat (first | refine blk_drewN ?_ _ | refine blk_drew ?_ | refine blk_alloc ?_ _)); exact BK190.out)) : gb202 ≠ gb190)); have n10_ := Aside0.mk ((by rw [hg]; exact Nat.ne_of_lt (blk_lt (g := gb191) (o := .cells #[.int .u32 a2_0, .int .u64 a2_1, .int .u64 a2_2, .int .i64 a2_3, .int .i64 a2_4, .int .i64 a2_5, .int .i64 a2_6, .int .i64 a2_7] 32 (0, 0)) (by (with_reducible repeat (first | refine blk_drewN ?_ _ | refine blk_drew ?_ | refine blk_alloc ?_ _)); exact BK191.out)) : gb191 ≠ gb202)); have n11_ := Aside0.mk ((by rw [hg]; exact Nat.ne_of_gt (blk_lt (g := gb191) (o := .cells #[.int .u32 a2_0, .int .u64 a2_1, .int .u64 a2_2, .int .i64 a2_3, .int .i64 a2_4, .int .i64 a2_5, .int .i64 a2_6, .int .i64 a2_7] 32 (0, 0)) (by (with_reducible repeat (first | refine blk_drewN ?_ _ | refine blk_drew ?_ | refine blk_alloc ?_ _)); exact BK191.out)) : gb202 ≠ gb191)); have n12_ := Aside0.mk ((by rw [hg]; exact Nat.ne_of_lt (blk_lt (g := gb193) (o := .cells #[.int .u64 0, .bool true, .int .u64 a1] 27 (0, 0)) (by (with_reducible repeat (first | refine blk_drewN ?_ _ | refine blk_drew ?_ | refine blk_alloc ?_ _)); exact BK193.out)) : gb193 ≠ gb202)); have n13_ := Aside0.mk ((by rw [hg]; exact Nat.ne_of_gt (blk_lt (g := gb193) (o := .cells #[.int .u64 0, .bool true, .int .u64 a1] 27 (0, 0)) (by (with_reducible repeat (first | refine blk_drewN ?_ _ | refine blk_drew ?_ | refine blk_alloc ?_ _)); exact BK193.out)) : gb202 ≠ gb193)); clear HO201; clear BK190; clear BK191; clear BK193; clear HB; have HO201 := n0_; have BK190 := n1_; have BK191 := n2_; have BK193 := n3_; have HB := n4_; have BK202 := n5_; have GW202 := n6_; have GE202 := n7_; have NB190_202 := n8_; have NB202_190 := n9_; have NB191_202 := n10_; have NB202_191 := n11_; have NB193_202 := n12_; have NB202_193 := n13_; clear n0_ n1_ n2_ n3_ n4_ n5_ n6_ n7_ n8_ n9_ n10_ n11_ n12_ n13_; clear hb hbox hg; have hnb43 := NB202_190.out; have hnc43 := NB190_202.out; have hnb44 := NB202_191.out; have hnc44 := NB191_202.out; have hnb45 := NB202_193.out; have hnc45 := NB193_202.out; have hcz46_0 : w42.cell? ⟨gb202, 0, none⟩ = some (.int .u64 0) := (blk_cell BK202.out 0).trans rfl; have hcz46_1 : w42.cell? ⟨gb202, 1, none⟩ = some (.slice none 0 0) := (blk_cell BK202.out 1).trans rfl; have hfz46_0 := blk_frozen BK202.out 0; have hfz46_1 := blk_frozen BK202.out 1; obtain ⟨Ao47, co47, eo47⟩ := Kd.R_slice HO201.out; subst eo47))
                go_loopg [10, 56] k1 (fun kq v10 v56 w' => ∃ (x10_2 : Int) (x56_2 : Int) (x203001_2 : List (S44)) (u203001 : Value), v10 = .int .u64 x10_2 ∧ v56 = .int .i64 x56_2 ∧ Aside0 (gazetteerlaw17_VisionStays.l1 kq t194 x10_2 (t199.length : Int) x56_2 a2_0 a2_1 a2_2 a2_3 a2_4 a2_5 a2_6 a2_7 0 true a1 t198 x203001_2 = some r) ∧ Aside0 (kq ≤ k1) ∧ Aside0 (Kd.R k44 44 w' w.heap.size (fun _ => True) u203001 x203001_2) ∧ Aside0 (w'.heap[gb190]? = some (.cells #[.int .u64 a0_0, (.slice A0_1 l0_1.length c0_1)] 25 (0, 0))) ∧ Aside0 (w'.heap[gb191]? = some (.cells #[.int .u32 a2_0, .int .u64 a2_1, .int .u64 a2_2, .int .i64 a2_3, .int .i64 a2_4, .int .i64 a2_5, .int .i64 a2_6, .int .i64 a2_7] 32 (0, 0))) ∧ Aside0 (w'.heap[gb193]? = some (.cells #[.int .u64 0, .bool true, .int .u64 a1] 27 (0, 0))) ∧ Aside0 (w'.heap[gb202]? = some (.cells #[.int .u64 t198, u203001] 25 (0, 0))) ∧ Aside0 (Below w.heap.size w w'))
                case atStart => exact ⟨(x10_1), (0), (t199), (.slice Ao47 t199.length co47), (by first | rfl | (simp; done) | (simp [*]; done)), (by first | rfl | (simp; done) | (simp [*]; done)), H', ⟨Nat.le_refl _⟩, ⟨by (with_reducible repeat (first | apply Kd.R_alloc | apply Kd.R_drewN | apply Kd.R_drew)); exact Kd.R_mono (Kd.R_far (p := ⟨gb202, 1, none⟩) (Kd.R_far (p := ⟨gb202, 0, none⟩) (Kd.R_types HO201.out BK202.out (by decide)) (fun _ hk => hk.2) (.int .u64 t198)) (fun _ hk => hk.2) (.slice Ao47 t199.length co47)) (fun _ hk => trivial)⟩, ⟨by (with_reducible repeat (first | refine blk_drewN ?_ _ | refine blk_drew ?_ | refine blk_alloc ?_ _)); refine blk_far ?_ NB190_202.out _; (with_reducible repeat (first | refine blk_drewN ?_ _ | refine blk_drew ?_ | refine blk_alloc ?_ _)); refine blk_far ?_ NB190_202.out _; (with_reducible repeat (first | refine blk_drewN ?_ _ | refine blk_drew ?_ | refine blk_alloc ?_ _)); exact BK190.out⟩, ⟨by (with_reducible repeat (first | refine blk_drewN ?_ _ | refine blk_drew ?_ | refine blk_alloc ?_ _)); refine blk_far ?_ NB191_202.out _; (with_reducible repeat (first | refine blk_drewN ?_ _ | refine blk_drew ?_ | refine blk_alloc ?_ _)); refine blk_far ?_ NB191_202.out _; (with_reducible repeat (first | refine blk_drewN ?_ _ | refine blk_drew ?_ | refine blk_alloc ?_ _)); exact BK191.out⟩, ⟨by (with_reducible repeat (first | refine blk_drewN ?_ _ | refine blk_drew ?_ | refine blk_alloc ?_ _)); refine blk_far ?_ NB193_202.out _; (with_reducible repeat (first | refine blk_drewN ?_ _ | refine blk_drew ?_ | refine blk_alloc ?_ _)); refine blk_far ?_ NB193_202.out _; (with_reducible repeat (first | refine blk_drewN ?_ _ | refine blk_drew ?_ | refine blk_alloc ?_ _)); exact BK193.out⟩, ⟨by (with_reducible repeat (first | refine blk_drewN ?_ _ | refine blk_drew ?_ | refine blk_alloc ?_ _)); refine blk_put (cs := #[.int .u64 t198, .slice none 0 0]) ?_ 1 _ rfl; (with_reducible repeat (first | refine blk_drewN ?_ _ | refine blk_drew ?_ | refine blk_alloc ?_ _)); refine blk_put (cs := #[.int .u64 0, .slice none 0 0]) ?_ 0 _ rfl; (with_reducible repeat (first | refine blk_drewN ?_ _ | refine blk_drew ?_ | refine blk_alloc ?_ _)); exact BK202.out⟩, ⟨by repeat (first | (with_reducible first | exact HB.out | apply below_alloc | apply pw_below_drewN | apply below_drew1 | refine below_set ?_ GE190.out | refine below_set ?_ GE191.out | refine below_set ?_ GE193.out | refine below_set ?_ GE202.out) | exact HB.out)⟩⟩
                case round =>
                  clear H'
                  try clear c1
                  try clear p1
                  try clear q1
                  try clear hx1
                  try clear c2
                  try clear p2
                  try clear c3
                  try clear c4
                  try clear c5
                  try clear c6
                  try clear c6b0
                  try clear c6b1
                  try clear p6
                  try clear c9
                  try clear c10
                  try clear c11
                  try clear c12
                  try clear c13
                  try clear c13b0
                  try clear c13b1
                  try clear c17
                  try clear p19
                  try clear q19
                  try clear hx19
                  try clear c20
                  try clear c21
                  try clear c27
                  try clear c27b0
                  try clear c28
                  try clear c28b0
                  try clear c29
                  try clear c29b0
                  try clear c32
                  try clear c33
                  try clear c34
                  try clear c36
                  try clear c36b0
                  try clear c38
                  try clear c39
                  try clear c43
                  try clear c44
                  try clear c45
                  try clear hcz11_0
                  try clear hcz11_1
                  try clear hcz18_0
                  try clear hcz18_1
                  try clear hcz22_0
                  try clear hcz22_1
                  try clear hcz22_2
                  try clear hcz23_0
                  try clear hcz23_1
                  try clear hcz24_0
                  try clear hcz24_1
                  try clear hcz24_2
                  try clear hcz24_3
                  try clear hcz24_4
                  try clear hcz24_5
                  try clear hcz24_6
                  try clear hcz24_7
                  try clear hcz26_0
                  try clear hcz26_1
                  try clear hcz35_0
                  try clear hcz35_1
                  try clear hcz40_0
                  try clear hcz40_1
                  try clear hcz46_0
                  try clear hcz46_1
                  try clear hfz11_0
                  try clear hfz11_1
                  try clear hfz18_0
                  try clear hfz18_1
                  try clear hfz22_0
                  try clear hfz22_1
                  try clear hfz22_2
                  try clear hfz23_0
                  try clear hfz23_1
                  try clear hfz24_0
                  try clear hfz24_1
                  try clear hfz24_2
                  try clear hfz24_3
                  try clear hfz24_4
                  try clear hfz24_5
                  try clear hfz24_6
                  try clear hfz24_7
                  try clear hfz26_0
                  try clear hfz26_1
                  try clear hfz35_0
                  try clear hfz35_1
                  try clear hfz40_0
                  try clear hfz40_1
                  try clear hfz46_0
                  try clear hfz46_1
                  try clear hx196_0
                  try clear hx196_1
                  try clear p196
                  try clear p2
                  try clear q196
                  obtain ⟨x10_2, x56_2, x203001_2, u203001, rfl, rfl, HA, HK2, HO_203001, BK190, BK191, BK193, BK202, HB⟩ := hrel
                  cases gk with
                  | zero => exact absurd HA.out (by simp [gazetteerlaw17_VisionStays.l1])
                  | succ k2 =>
                    have H := HA.out
                    clear HA
                    simp only [gazetteerlaw17_VisionStays.l1] at H
                    by_cases c48 : x56_2 < (t199.length : Int)
                    · rw [if_pos c48] at H
                      have c48b0 : decide (x56_2 < (t199.length : Int)) = true := decide_eq_true c48
                      clear c48
                      by_cases c49 : 0 ≤ x56_2
                      · rw [if_pos c49] at H
                        have c49b0 : decide (0 ≤ x56_2) = true := decide_eq_true c49
                        clear c49
                        by_cases c50 : x56_2 < (x203001_2.length : Int)
                        · rw [if_pos c50] at H
                          have c50b0 : decide (x56_2 < (x203001_2.length : Int)) = true := decide_eq_true c50
                          clear c50
                          by_cases c51 : ((rd_T44 x203001_2 x56_2).f1) = 0
                          · rw [if_pos c51] at H
                            have c51b0 : (((rd_T44 x203001_2 x56_2).f1) == 0) = true := beq_iff_eq.mpr c51
                            have c51b1 : (((rd_T44 x203001_2 x56_2).f1) != 0) = false := bne_eq_false_iff_eq.mpr c51
                            clear c51
                            obtain ⟨y204, hy204⟩ : ∃ y_ : List (S44), y_ = (x203001_2.set (x56_2 : Int).toNat (⟨(rd_T44 x203001_2 x56_2).f0, IntKind.u64.wrap (x10_2 + 1)⟩ : S44)) := ⟨_, rfl⟩
                            replace H : ((vision_Sees.f t198 y204 0 true a1 a2_0 a2_1 a2_2 a2_3 a2_4 a2_5 a2_6 a2_7).bind fun bt205 => (if bt205.2 = 0 then (if (bt205.1 != t194) = true then (some false) else (gazetteerlaw17_VisionStays.l1 k2 t194 (IntKind.u64.wrap (x10_2 + 1)) (t199.length : Int) (wrap64 (x56_2 + 1)) a2_0 a2_1 a2_2 a2_3 a2_4 a2_5 a2_6 a2_7 0 true a1 t198 y204)) else (some false))) = some r := by first | (rw [hy204]; with_reducible exact H) | (have H2_ := (Option.bind_some _ _).symm.trans H; rw [hy204]; with_reducible exact H2_) | (have H2_ := (Option.bind_some _ _).symm.trans H; with_reducible exact H2_) | with_reducible exact H | (rw [hy204]; exact H) | exact H
                            have Ny204 := Aside0.mk hy204
                            clear hy204
                            replace H := Option.bind_eq_some_iff.mp H
                            obtain ⟨⟨t205, t206⟩, A530, H⟩ := H
                            replace H : (if t206 = 0 then (if (t205 != t194) = true then (some false) else (gazetteerlaw17_VisionStays.l1 k2 t194 (IntKind.u64.wrap (x10_2 + 1)) (t199.length : Int) (wrap64 (x56_2 + 1)) a2_0 a2_1 a2_2 a2_3 a2_4 a2_5 a2_6 a2_7 0 true a1 t198 y204)) else (some false)) = some r := H
                            have A53 := Aside0.mk A530
                            clear A530
                            by_cases c54 : t206 = 0
                            · rw [if_pos c54] at H
                              have c54b0 : (t206 == 0) = true := beq_iff_eq.mpr c54
                              have c54b1 : (t206 != 0) = false := bne_eq_false_iff_eq.mpr c54
                              clear c54
                              by_cases c55 : (t205 != t194) = true
                              · rw [if_pos c55] at H
                                have c55b0 : (t205 != t194) = true := c55
                                (try (have c55b1 : decide (t205 = t194) = false := by simpa using c55))
                                (try (have c55b2 : (t205 == t194) = false := by simpa using c55))
                                (try (have c55b3 : ¬ (t205 = t194) := by simpa using c55))
                                clear c55
                                obtain rfl := Option.some.inj H
                                have hnb56 := NB202_190.out
                                have hnc56 := NB190_202.out
                                have hnb57 := NB202_191.out
                                have hnc57 := NB191_202.out
                                have hnb58 := NB202_193.out
                                have hnc58 := NB193_202.out
                                have hcz59_0 : wr.cell? ⟨gb202, 0, none⟩ = some (.int .u64 t198) := (blk_cell BK202.out 0).trans rfl
                                have hcz59_1 : wr.cell? ⟨gb202, 1, none⟩ = some (u203001) := (blk_cell BK202.out 1).trans rfl
                                have hfz59_0 := blk_frozen BK202.out 0
                                have hfz59_1 := blk_frozen BK202.out 1
                                obtain ⟨Ao60, co60, eo60⟩ := Kd.R_slice HO_203001.out
                                subst eo60
                                have p203 : 0 ≤ (x56_2 : Int) := of_decide_eq_true (by first | (with_reducible assumption) | assumption)
                                have q203 : x56_2 < (x203001_2.length : Int) := of_decide_eq_true (by first | (with_reducible assumption) | assumption)
                                obtain ⟨ad203, e203, hx203_0, hx203_1⟩ := at_T44 (Kd.R_reads' HO_203001.out).2.2 x56_2 p203 q203
                                cases e203
                                replace p203 := eq_true p203
                                replace q203 := eq_true q203
                                have p52 : 0 ≤ (x56_2 : Int) := of_decide_eq_true (by first | (with_reducible assumption) | assumption)
                                have q52 : (x56_2 : Int) < ((x203001_2.length : Int) : Int) := of_decide_eq_true (by first | (with_reducible assumption) | assumption)
                                obtain ⟨go52, co52, eo52, gb52, gl52, cl52, HG52⟩ := Kd.R_form HO_203001.out (by omega)
                                (first | cases eo52 | (injection eo52 with ea_ en_ ec_; (first | subst ea_ | (injection ea_ with ea_; subst ea_)); subst ec_; clear en_))
                                have GB52 := Aside0.mk gb52
                                have GG52 := Aside0.mk HG52
                                clear gb52 gl52 HG52
                                (first | simp only [add_plain] at hx203_0 | skip)
                                (first | simp only [add_plain] at hx203_1 | skip)
                                obtain ⟨ce52, hcl52, hM52, hcc52, hfr52⟩ := Kd.R_elem HO_203001.out z44 (x56_2 : Int) p52 q52
                                obtain rfl := k44_openM hM52
                                have hx52_0 : wr.cell? ⟨go52, (x56_2 : Int).toNat * 2, none⟩ = some (.int .u64 ((rd_T44 x203001_2 x56_2).f0)) := hcc52 0 _ rfl
                                have hx52_1 : wr.cell? ⟨go52, (x56_2 : Int).toNat * 2 + 1, none⟩ = some (.int .u64 ((rd_T44 x203001_2 x56_2).f1)) := hcc52 1 _ rfl
                                have hf52_0 : wr.frozen? ⟨go52, (x56_2 : Int).toNat * 2, none⟩ = false := hfr52 0
                                have hf52_1 : wr.frozen? ⟨go52, (x56_2 : Int).toNat * 2 + 1, none⟩ = false := hfr52 1
                                clear hcl52 hcc52 hfr52 hM52
                                replace p52 := eq_true p52
                                replace q52 := eq_true q52
                                have HX61 := Aside0.mk (show Kd.R k44 44 wr w.heap.size (fun _ => True) (.slice (some ⟨go52, 0, none⟩) x203001_2.length co60) x203001_2 from (by (with_reducible repeat (first | apply Kd.R_alloc | apply Kd.R_drewN | apply Kd.R_drew)); exact HO_203001.out))
                                obtain ⟨ce61, hcl61, hM61, hcc61, hfr61⟩ := Kd.R_elem HX61.out z44 (x56_2 : Int) (of_decide_eq_true (by first | (with_reducible assumption) | assumption)) (by have h_ : (x56_2 : Int) < ((x203001_2.length : Int) : Int) := of_decide_eq_true (by first | (with_reducible assumption) | assumption); first | exact h_ | (have e_ := (Kd.R_reads' HO_203001.out).1; omega) | simpa using h_)
                                obtain rfl := k44_openM hM61
                                have HP61 := Kd.R_seg HX61.out (x56_2 : Int) (of_decide_eq_true (by first | (with_reducible assumption) | assumption)) (by have h_ : (x56_2 : Int) < ((x203001_2.length : Int) : Int) := of_decide_eq_true (by first | (with_reducible assumption) | assumption); first | exact h_ | (have e_ := (Kd.R_reads' HO_203001.out).1; omega) | simpa using h_) (seg := [.int .u64 (IntKind.u64.wrap (x10_2 + 1))]) (j := 1) hcl61 hcc61 (show 2 ≤ 2 from by decide) (x' := (⟨(rd_T44 x203001_2 x56_2).f0, IntKind.u64.wrap (x10_2 + 1)⟩ : S44)) (k44_mkM _ _ _ (⟨(rd_T44 x203001_2 x56_2).f0, IntKind.u64.wrap (x10_2 + 1)⟩ : S44) ) (fun _ hk => hk)
                                have hx61_1 := hcc61 1 _ rfl
                                (try simp only [show (k44).sz = 2 from rfl, Nat.mul_one, Nat.add_zero] at hx61_1)
                                have hf61_1 := hfr61 1
                                (try simp only [show (k44).sz = 2 from rfl, Nat.mul_one, Nat.add_zero] at hf61_1)
                                clear hcl61 hcc61 hfr61 hM61
                                go_wp2_with (first | ((with_reducible refine gate_store (t := 22) (p := 73) rfl ?_); refine store_event (t := 22) (p := 73) (v := ?vo_w62) (w1 := (wr.setCell ⟨go52, (x56_2 : Int).toNat * 2 + 1, none⟩ (.int .u64 (IntKind.u64.wrap (x10_2 + 1))))) ?hg ?ho ?hn ?hr ?_; (case ho => rfl); (case hg => rfl); (case hn => rfl); (case hr => first | (go_simp; done) | (go_simp; rfl)); intro w62 hw; have hg : wr.grownBy w62 (some go52) := (by rw [hw]; exact HP61.2); have hp_ : Kd.R k44 44 w62 w.heap.size (fun _ => True) (.slice (some ⟨go52, 0, none⟩) x203001_2.length co60) y204 := (by rw [hw, Ny204.out]; exact HP61.1); clear HP61; have n0_ := Aside0.mk (hp_); have n1_ := Aside0.mk (blk_grown (g := gb190) (o := .cells #[.int .u64 a0_0, .slice A0_1 l0_1.length c0_1] 25 (0, 0)) (by (with_reducible repeat (first | refine blk_drewN ?_ _ | refine blk_drew ?_ | refine blk_alloc ?_ _)); exact BK190.out) hg (Kd.R_ne HO_203001.out BK190.out (by decide))); have n2_ := Aside0.mk (blk_grown (g := gb191) (o := .cells #[.int .u32 a2_0, .int .u64 a2_1, .int .u64 a2_2, .int .i64 a2_3, .int .i64 a2_4, .int .i64 a2_5, .int .i64 a2_6, .int .i64 a2_7] 32 (0, 0)) (by (with_reducible repeat (first | refine blk_drewN ?_ _ | refine blk_drew ?_ | refine blk_alloc ?_ _)); exact BK191.out) hg (Kd.R_ne HO_203001.out BK191.out (by decide))); have n3_ := Aside0.mk (blk_grown (g := gb193) (o := .cells #[.int .u64 0, .bool true, .int .u64 a1] 27 (0, 0)) (by (with_reducible repeat (first | refine blk_drewN ?_ _ | refine blk_drew ?_ | refine blk_alloc ?_ _)); exact BK193.out) hg (Kd.R_ne HO_203001.out BK193.out (by decide))); have n4_ := Aside0.mk (blk_grown (g := gb202) (o := .cells #[.int .u64 t198, .slice (some ⟨go52, 0, none⟩) x203001_2.length co60] 25 (0, 0)) (by (with_reducible repeat (first | refine blk_drewN ?_ _ | refine blk_drew ?_ | refine blk_alloc ?_ _)); exact BK202.out) hg (Kd.R_ne HO_203001.out BK202.out (by decide))); have n5_ := Aside0.mk ((by rw [hw]; exact below_set (HB.out) GB52.out : Below w.heap.size w w62)); clear HO_203001; clear BK190; clear BK191; clear BK193; clear BK202; clear HB; have HO_203001 := n0_; have BK190 := n1_; have BK191 := n2_; have BK193 := n3_; have BK202 := n4_; have HB := n5_; clear n0_ n1_ n2_ n3_ n4_ n5_; clear hg hw hp_; have hcz63_0 : w62.cell? ⟨gb202, 0, none⟩ = some (.int .u64 t198) := (blk_cell BK202.out 0).trans rfl; have hcz63_1 : w62.cell? ⟨gb202, 1, none⟩ = some (.slice (some ⟨go52, 0, none⟩) x203001_2.length co60) := (blk_cell BK202.out 1).trans rfl; have hfz63_0 := blk_frozen BK202.out 0; have hfz63_1 := blk_frozen BK202.out 1; have hnb64 := NB193_190.out; have hnc64 := NB190_193.out; have hnb65 := NB193_191.out; have hnc65 := NB191_193.out; have hcz66_0 : w62.cell? ⟨gb193, 0, none⟩ = some (.int .u64 0) := (blk_cell BK193.out 0).trans rfl; have hcz66_1 : w62.cell? ⟨gb193, 1, none⟩ = some (.bool true) := (blk_cell BK193.out 1).trans rfl; have hcz66_2 : w62.cell? ⟨gb193, 2, none⟩ = some (.int .u64 a1) := (blk_cell BK193.out 2).trans rfl; have hfz66_0 := blk_frozen BK193.out 0; have hfz66_1 := blk_frozen BK193.out 1; have hfz66_2 := blk_frozen BK193.out 2; have hnb67 := NB191_190.out; have hnc67 := NB190_191.out; have hcz68_0 : w62.cell? ⟨gb191, 0, none⟩ = some (.int .u32 a2_0) := (blk_cell BK191.out 0).trans rfl; have hcz68_1 : w62.cell? ⟨gb191, 1, none⟩ = some (.int .u64 a2_1) := (blk_cell BK191.out 1).trans rfl; have hcz68_2 : w62.cell? ⟨gb191, 2, none⟩ = some (.int .u64 a2_2) := (blk_cell BK191.out 2).trans rfl; have hcz68_3 : w62.cell? ⟨gb191, 3, none⟩ = some (.int .i64 a2_3) := (blk_cell BK191.out 3).trans rfl; have hcz68_4 : w62.cell? ⟨gb191, 4, none⟩ = some (.int .i64 a2_4) := (blk_cell BK191.out 4).trans rfl; have hcz68_5 : w62.cell? ⟨gb191, 5, none⟩ = some (.int .i64 a2_5) := (blk_cell BK191.out 5).trans rfl; have hcz68_6 : w62.cell? ⟨gb191, 6, none⟩ = some (.int .i64 a2_6) := (blk_cell BK191.out 6).trans rfl; have hcz68_7 : w62.cell? ⟨gb191, 7, none⟩ = some (.int .i64 a2_7) := (blk_cell BK191.out 7).trans rfl; have hfz68_0 := blk_frozen BK191.out 0; have hfz68_1 := blk_frozen BK191.out 1; have hfz68_2 := blk_frozen BK191.out 2; have hfz68_3 := blk_frozen BK191.out 3; have hfz68_4 := blk_frozen BK191.out 4; have hfz68_5 := blk_frozen BK191.out 5; have hfz68_6 := blk_frozen BK191.out 6; have hfz68_7 := blk_frozen BK191.out 7) | ((with_reducible refine gate_callee (f := 12) rfl ?_); refine goesL_ (some 78) rfl rfl Try.func12 (by kernel_rfl) rfl #[.agg #[.int .u64 t198, .slice (some ⟨go52, 0, none⟩) y204.length co60], .agg #[.int .u64 0, .bool true, .int .u64 a1], .agg #[.int .u32 a2_0, .int .u64 a2_1, .int .u64 a2_2, .int .i64 a2_3, .int .i64 a2_4, .int .i64 a2_5, .int .i64 a2_6, .int .i64 a2_7]] rfl (by (try simp only [List.map_toArray, List.map_cons, List.map_nil]); first | done | (rw [show y204.length = x203001_2.length from (Kd.R_reads' HO_203001.out).1.symm] <;> rfl) | rfl | (simp only [List.length_drop, List.length_take]; rfl)) ?_; (with_reducible refine (vision_Sees.calls t198 _ _ y204 0 true a1 a2_0 a2_1 a2_2 a2_3 a2_4 a2_5 a2_6 a2_7 t205 t206 _ ?side1 ?side2 A53.out).mono ?_); (case side1 => repeat (first | exact (Kd.R_reads' HO_203001.out).2.2 | (with_reducible refine Kd.C_alloc ?_ _) | (with_reducible refine Kd.C_drewN ?_ _) | (with_reducible refine Kd.C_drew ?_))); (case side2 => rw [show y204.length = x203001_2.length from (Kd.R_reads' HO_203001.out).1.symm]; exact (Kd.R_reads' HO_203001.out).2.1); rintro e w69 ⟨rfl, hb⟩; refine ⟨_, rfl, ?_⟩; have n0_ := Aside0.mk (Kd.R_below (by (with_reducible repeat (first | apply Kd.R_alloc | apply Kd.R_drewN | apply Kd.R_drew)); exact HO_203001.out) hb); have n1_ := Aside0.mk (blk_below (g := gb190) (o := .cells #[.int .u64 a0_0, .slice A0_1 l0_1.length c0_1] 25 (0, 0)) (by (with_reducible repeat (first | refine blk_drewN ?_ _ | refine blk_drew ?_ | refine blk_alloc ?_ _)); exact BK190.out) hb); have n2_ := Aside0.mk (blk_below (g := gb191) (o := .cells #[.int .u32 a2_0, .int .u64 a2_1, .int .u64 a2_2, .int .i64 a2_3, .int .i64 a2_4, .int .i64 a2_5, .int .i64 a2_6, .int .i64 a2_7] 32 (0, 0)) (by (with_reducible repeat (first | refine blk_drewN ?_ _ | refine blk_drew ?_ | refine blk_alloc ?_ _)); exact BK191.out) hb); have n3_ := Aside0.mk (blk_below (g := gb193) (o := .cells #[.int .u64 0, .bool true, .int .u64 a1] 27 (0, 0)) (by (with_reducible repeat (first | refine blk_drewN ?_ _ | refine blk_drew ?_ | refine blk_alloc ?_ _)); exact BK193.out) hb); have n4_ := Aside0.mk (blk_below (g := gb202) (o := .cells #[.int .u64 t198, .slice (some ⟨go52, 0, none⟩) x203001_2.length co60] 25 (0, 0)) (by (with_reducible repeat (first | refine blk_drewN ?_ _ | refine blk_drew ?_ | refine blk_alloc ?_ _)); exact BK202.out) hb); have n5_ := Aside0.mk (below_step (by repeat (first | (with_reducible first | exact HB.out | apply below_alloc | apply pw_below_drewN | apply below_drew1 | refine below_set ?_ GE190.out | refine below_set ?_ GE191.out | refine below_set ?_ GE193.out | refine below_set ?_ GE202.out) | exact HB.out)) hb); clear HO_203001; clear BK190; clear BK191; clear BK193; clear BK202; clear HB; have HO_203001 := n0_; have BK190 := n1_; have BK191 := n2_; have BK193 := n3_; have BK202 := n4_; have HB := n5_; clear n0_ n1_ n2_ n3_ n4_ n5_; (try clear hb); (try clear hb2); (try clear hk); (try clear hi)))
                                go_ret
                                exact ⟨by first | rfl | (simp [errW_none, errW_some] <;> rfl) | (simp [*, errW_none, errW_some] <;> rfl), by repeat (first | (with_reducible first | exact HB.out | apply below_alloc | apply pw_below_drewN | apply below_drew1 | refine below_set ?_ GE190.out | refine below_set ?_ GE191.out | refine below_set ?_ GE193.out | refine below_set ?_ GE202.out) | exact HB.out)⟩
                              · rw [if_neg c55] at H
                                have c55b0 : (t205 != t194) = false := by simpa using c55
                                (try (have c55b1 : decide (t205 = t194) = true := by simpa using c55))
                                (try (have c55b2 : (t205 == t194) = true := by simpa using c55))
                                clear c55
                                have H' := Aside0.mk H
                                clear H
                                have hnb70 := NB202_190.out
                                have hnc70 := NB190_202.out
                                have hnb71 := NB202_191.out
                                have hnc71 := NB191_202.out
                                have hnb72 := NB202_193.out
                                have hnc72 := NB193_202.out
                                have hcz73_0 : wr.cell? ⟨gb202, 0, none⟩ = some (.int .u64 t198) := (blk_cell BK202.out 0).trans rfl
                                have hcz73_1 : wr.cell? ⟨gb202, 1, none⟩ = some (u203001) := (blk_cell BK202.out 1).trans rfl
                                have hfz73_0 := blk_frozen BK202.out 0
                                have hfz73_1 := blk_frozen BK202.out 1
                                obtain ⟨Ao74, co74, eo74⟩ := Kd.R_slice HO_203001.out
                                subst eo74
                                have p203 : 0 ≤ (x56_2 : Int) := of_decide_eq_true (by first | (with_reducible assumption) | assumption)
                                have q203 : x56_2 < (x203001_2.length : Int) := of_decide_eq_true (by first | (with_reducible assumption) | assumption)
                                obtain ⟨ad203, e203, hx203_0, hx203_1⟩ := at_T44 (Kd.R_reads' HO_203001.out).2.2 x56_2 p203 q203
                                cases e203
                                replace p203 := eq_true p203
                                replace q203 := eq_true q203
                                have p52 : 0 ≤ (x56_2 : Int) := of_decide_eq_true (by first | (with_reducible assumption) | assumption)
                                have q52 : (x56_2 : Int) < ((x203001_2.length : Int) : Int) := of_decide_eq_true (by first | (with_reducible assumption) | assumption)
                                obtain ⟨go52, co52, eo52, gb52, gl52, cl52, HG52⟩ := Kd.R_form HO_203001.out (by omega)
                                (first | cases eo52 | (injection eo52 with ea_ en_ ec_; (first | subst ea_ | (injection ea_ with ea_; subst ea_)); subst ec_; clear en_))
                                have GB52 := Aside0.mk gb52
                                have GG52 := Aside0.mk HG52
                                clear gb52 gl52 HG52
                                (first | simp only [add_plain] at hx203_0 | skip)
                                (first | simp only [add_plain] at hx203_1 | skip)
                                obtain ⟨ce52, hcl52, hM52, hcc52, hfr52⟩ := Kd.R_elem HO_203001.out z44 (x56_2 : Int) p52 q52
                                obtain rfl := k44_openM hM52
                                have hx52_0 : wr.cell? ⟨go52, (x56_2 : Int).toNat * 2, none⟩ = some (.int .u64 ((rd_T44 x203001_2 x56_2).f0)) := hcc52 0 _ rfl
                                have hx52_1 : wr.cell? ⟨go52, (x56_2 : Int).toNat * 2 + 1, none⟩ = some (.int .u64 ((rd_T44 x203001_2 x56_2).f1)) := hcc52 1 _ rfl
                                have hf52_0 : wr.frozen? ⟨go52, (x56_2 : Int).toNat * 2, none⟩ = false := hfr52 0
                                have hf52_1 : wr.frozen? ⟨go52, (x56_2 : Int).toNat * 2 + 1, none⟩ = false := hfr52 1
                                clear hcl52 hcc52 hfr52 hM52
                                replace p52 := eq_true p52
                                replace q52 := eq_true q52
                                have HX75 := Aside0.mk (show Kd.R k44 44 wr w.heap.size (fun _ => True) (.slice (some ⟨go52, 0, none⟩) x203001_2.length co74) x203001_2 from (by (with_reducible repeat (first | apply Kd.R_alloc | apply Kd.R_drewN | apply Kd.R_drew)); exact HO_203001.out))
                                obtain ⟨ce75, hcl75, hM75, hcc75, hfr75⟩ := Kd.R_elem HX75.out z44 (x56_2 : Int) (of_decide_eq_true (by first | (with_reducible assumption) | assumption)) (by have h_ : (x56_2 : Int) < ((x203001_2.length : Int) : Int) := of_decide_eq_true (by first | (with_reducible assumption) | assumption); first | exact h_ | (have e_ := (Kd.R_reads' HO_203001.out).1; omega) | simpa using h_)
                                obtain rfl := k44_openM hM75
                                have HP75 := Kd.R_seg HX75.out (x56_2 : Int) (of_decide_eq_true (by first | (with_reducible assumption) | assumption)) (by have h_ : (x56_2 : Int) < ((x203001_2.length : Int) : Int) := of_decide_eq_true (by first | (with_reducible assumption) | assumption); first | exact h_ | (have e_ := (Kd.R_reads' HO_203001.out).1; omega) | simpa using h_) (seg := [.int .u64 (IntKind.u64.wrap (x10_2 + 1))]) (j := 1) hcl75 hcc75 (show 2 ≤ 2 from by decide) (x' := (⟨(rd_T44 x203001_2 x56_2).f0, IntKind.u64.wrap (x10_2 + 1)⟩ : S44)) (k44_mkM _ _ _ (⟨(rd_T44 x203001_2 x56_2).f0, IntKind.u64.wrap (x10_2 + 1)⟩ : S44) ) (fun _ hk => hk)
                                have hx75_1 := hcc75 1 _ rfl
                                (try simp only [show (k44).sz = 2 from rfl, Nat.mul_one, Nat.add_zero] at hx75_1)
                                have hf75_1 := hfr75 1
                                (try simp only [show (k44).sz = 2 from rfl, Nat.mul_one, Nat.add_zero] at hf75_1)
                                clear hcl75 hcc75 hfr75 hM75
                                go_wp2_with (first | ((with_reducible refine gate_store (t := 22) (p := 73) rfl ?_); refine store_event (t := 22) (p := 73) (v := ?vo_w76) (w1 := (wr.setCell ⟨go52, (x56_2 : Int).toNat * 2 + 1, none⟩ (.int .u64 (IntKind.u64.wrap (x10_2 + 1))))) ?hg ?ho ?hn ?hr ?_; (case ho => rfl); (case hg => rfl); (case hn => rfl); (case hr => first | (go_simp; done) | (go_simp; rfl)); intro w76 hw; have hg : wr.grownBy w76 (some go52) := (by rw [hw]; exact HP75.2); have hp_ : Kd.R k44 44 w76 w.heap.size (fun _ => True) (.slice (some ⟨go52, 0, none⟩) x203001_2.length co74) y204 := (by rw [hw, Ny204.out]; exact HP75.1); clear HP75; have n0_ := Aside0.mk (hp_); have n1_ := Aside0.mk (blk_grown (g := gb190) (o := .cells #[.int .u64 a0_0, .slice A0_1 l0_1.length c0_1] 25 (0, 0)) (by (with_reducible repeat (first | refine blk_drewN ?_ _ | refine blk_drew ?_ | refine blk_alloc ?_ _)); exact BK190.out) hg (Kd.R_ne HO_203001.out BK190.out (by decide))); have n2_ := Aside0.mk (blk_grown (g := gb191) (o := .cells #[.int .u32 a2_0, .int .u64 a2_1, .int .u64 a2_2, .int .i64 a2_3, .int .i64 a2_4, .int .i64 a2_5, .int .i64 a2_6, .int .i64 a2_7] 32 (0, 0)) (by (with_reducible repeat (first | refine blk_drewN ?_ _ | refine blk_drew ?_ | refine blk_alloc ?_ _)); exact BK191.out) hg (Kd.R_ne HO_203001.out BK191.out (by decide))); have n3_ := Aside0.mk (blk_grown (g := gb193) (o := .cells #[.int .u64 0, .bool true, .int .u64 a1] 27 (0, 0)) (by (with_reducible repeat (first | refine blk_drewN ?_ _ | refine blk_drew ?_ | refine blk_alloc ?_ _)); exact BK193.out) hg (Kd.R_ne HO_203001.out BK193.out (by decide))); have n4_ := Aside0.mk (blk_grown (g := gb202) (o := .cells #[.int .u64 t198, .slice (some ⟨go52, 0, none⟩) x203001_2.length co74] 25 (0, 0)) (by (with_reducible repeat (first | refine blk_drewN ?_ _ | refine blk_drew ?_ | refine blk_alloc ?_ _)); exact BK202.out) hg (Kd.R_ne HO_203001.out BK202.out (by decide))); have n5_ := Aside0.mk ((by rw [hw]; exact below_set (HB.out) GB52.out : Below w.heap.size w w76)); clear HO_203001; clear BK190; clear BK191; clear BK193; clear BK202; clear HB; have HO_203001 := n0_; have BK190 := n1_; have BK191 := n2_; have BK193 := n3_; have BK202 := n4_; have HB := n5_; clear n0_ n1_ n2_ n3_ n4_ n5_; clear hg hw hp_; have hcz77_0 : w76.cell? ⟨gb202, 0, none⟩ = some (.int .u64 t198) := (blk_cell BK202.out 0).trans rfl; have hcz77_1 : w76.cell? ⟨gb202, 1, none⟩ = some (.slice (some ⟨go52, 0, none⟩) x203001_2.length co74) := (blk_cell BK202.out 1).trans rfl; have hfz77_0 := blk_frozen BK202.out 0; have hfz77_1 := blk_frozen BK202.out 1; have hnb78 := NB193_190.out; have hnc78 := NB190_193.out; have hnb79 := NB193_191.out; have hnc79 := NB191_193.out; have hcz80_0 : w76.cell? ⟨gb193, 0, none⟩ = some (.int .u64 0) := (blk_cell BK193.out 0).trans rfl; have hcz80_1 : w76.cell? ⟨gb193, 1, none⟩ = some (.bool true) := (blk_cell BK193.out 1).trans rfl; have hcz80_2 : w76.cell? ⟨gb193, 2, none⟩ = some (.int .u64 a1) := (blk_cell BK193.out 2).trans rfl; have hfz80_0 := blk_frozen BK193.out 0; have hfz80_1 := blk_frozen BK193.out 1; have hfz80_2 := blk_frozen BK193.out 2; have hnb81 := NB191_190.out; have hnc81 := NB190_191.out; have hcz82_0 : w76.cell? ⟨gb191, 0, none⟩ = some (.int .u32 a2_0) := (blk_cell BK191.out 0).trans rfl; have hcz82_1 : w76.cell? ⟨gb191, 1, none⟩ = some (.int .u64 a2_1) := (blk_cell BK191.out 1).trans rfl; have hcz82_2 : w76.cell? ⟨gb191, 2, none⟩ = some (.int .u64 a2_2) := (blk_cell BK191.out 2).trans rfl; have hcz82_3 : w76.cell? ⟨gb191, 3, none⟩ = some (.int .i64 a2_3) := (blk_cell BK191.out 3).trans rfl; have hcz82_4 : w76.cell? ⟨gb191, 4, none⟩ = some (.int .i64 a2_4) := (blk_cell BK191.out 4).trans rfl; have hcz82_5 : w76.cell? ⟨gb191, 5, none⟩ = some (.int .i64 a2_5) := (blk_cell BK191.out 5).trans rfl; have hcz82_6 : w76.cell? ⟨gb191, 6, none⟩ = some (.int .i64 a2_6) := (blk_cell BK191.out 6).trans rfl; have hcz82_7 : w76.cell? ⟨gb191, 7, none⟩ = some (.int .i64 a2_7) := (blk_cell BK191.out 7).trans rfl; have hfz82_0 := blk_frozen BK191.out 0; have hfz82_1 := blk_frozen BK191.out 1; have hfz82_2 := blk_frozen BK191.out 2; have hfz82_3 := blk_frozen BK191.out 3; have hfz82_4 := blk_frozen BK191.out 4; have hfz82_5 := blk_frozen BK191.out 5; have hfz82_6 := blk_frozen BK191.out 6; have hfz82_7 := blk_frozen BK191.out 7) | ((with_reducible refine gate_callee (f := 12) rfl ?_); refine goesL_ (some 78) rfl rfl Try.func12 (by kernel_rfl) rfl #[.agg #[.int .u64 t198, .slice (some ⟨go52, 0, none⟩) y204.length co74], .agg #[.int .u64 0, .bool true, .int .u64 a1], .agg #[.int .u32 a2_0, .int .u64 a2_1, .int .u64 a2_2, .int .i64 a2_3, .int .i64 a2_4, .int .i64 a2_5, .int .i64 a2_6, .int .i64 a2_7]] rfl (by (try simp only [List.map_toArray, List.map_cons, List.map_nil]); first | done | (rw [show y204.length = x203001_2.length from (Kd.R_reads' HO_203001.out).1.symm] <;> rfl) | rfl | (simp only [List.length_drop, List.length_take]; rfl)) ?_; (with_reducible refine (vision_Sees.calls t198 _ _ y204 0 true a1 a2_0 a2_1 a2_2 a2_3 a2_4 a2_5 a2_6 a2_7 t205 t206 _ ?side1 ?side2 A53.out).mono ?_); (case side1 => repeat (first | exact (Kd.R_reads' HO_203001.out).2.2 | (with_reducible refine Kd.C_alloc ?_ _) | (with_reducible refine Kd.C_drewN ?_ _) | (with_reducible refine Kd.C_drew ?_))); (case side2 => rw [show y204.length = x203001_2.length from (Kd.R_reads' HO_203001.out).1.symm]; exact (Kd.R_reads' HO_203001.out).2.1); rintro e w83 ⟨rfl, hb⟩; refine ⟨_, rfl, ?_⟩; have n0_ := Aside0.mk (Kd.R_below (by (with_reducible repeat (first | apply Kd.R_alloc | apply Kd.R_drewN | apply Kd.R_drew)); exact HO_203001.out) hb); have n1_ := Aside0.mk (blk_below (g := gb190) (o := .cells #[.int .u64 a0_0, .slice A0_1 l0_1.length c0_1] 25 (0, 0)) (by (with_reducible repeat (first | refine blk_drewN ?_ _ | refine blk_drew ?_ | refine blk_alloc ?_ _)); exact BK190.out) hb); have n2_ := Aside0.mk (blk_below (g := gb191) (o := .cells #[.int .u32 a2_0, .int .u64 a2_1, .int .u64 a2_2, .int .i64 a2_3, .int .i64 a2_4, .int .i64 a2_5, .int .i64 a2_6, .int .i64 a2_7] 32 (0, 0)) (by (with_reducible repeat (first | refine blk_drewN ?_ _ | refine blk_drew ?_ | refine blk_alloc ?_ _)); exact BK191.out) hb); have n3_ := Aside0.mk (blk_below (g := gb193) (o := .cells #[.int .u64 0, .bool true, .int .u64 a1] 27 (0, 0)) (by (with_reducible repeat (first | refine blk_drewN ?_ _ | refine blk_drew ?_ | refine blk_alloc ?_ _)); exact BK193.out) hb); have n4_ := Aside0.mk (blk_below (g := gb202) (o := .cells #[.int .u64 t198, .slice (some ⟨go52, 0, none⟩) x203001_2.length co74] 25 (0, 0)) (by (with_reducible repeat (first | refine blk_drewN ?_ _ | refine blk_drew ?_ | refine blk_alloc ?_ _)); exact BK202.out) hb); have n5_ := Aside0.mk (below_step (by repeat (first | (with_reducible first | exact HB.out | apply below_alloc | apply pw_below_drewN | apply below_drew1 | refine below_set ?_ GE190.out | refine below_set ?_ GE191.out | refine below_set ?_ GE193.out | refine below_set ?_ GE202.out) | exact HB.out)) hb); clear HO_203001; clear BK190; clear BK191; clear BK193; clear BK202; clear HB; have HO_203001 := n0_; have BK190 := n1_; have BK191 := n2_; have BK193 := n3_; have BK202 := n4_; have HB := n5_; clear n0_ n1_ n2_ n3_ n4_ n5_; (try clear hb); (try clear hb2); (try clear hk); (try clear hi)))
                                go_roundg k2
                                case measure => have := HK1.out; have := HK2.out; omega
                                case rel => exact ⟨(IntKind.u64.wrap (x10_2 + 1)), (wrap64 (x56_2 + 1)), (y204), (.slice (some ⟨go52, 0, none⟩) x203001_2.length co74), (by first | rfl | (simp; done) | (simp [*]; done)), (by first | rfl | (simp; done) | (simp [*]; done)), H', ⟨by have := HK1.out; have := HK2.out; omega⟩, ⟨by (with_reducible repeat (first | apply Kd.R_alloc | apply Kd.R_drewN | apply Kd.R_drew)); exact HO_203001.out⟩, ⟨by (with_reducible repeat (first | refine blk_drewN ?_ _ | refine blk_drew ?_ | refine blk_alloc ?_ _)); exact BK190.out⟩, ⟨by (with_reducible repeat (first | refine blk_drewN ?_ _ | refine blk_drew ?_ | refine blk_alloc ?_ _)); exact BK191.out⟩, ⟨by (with_reducible repeat (first | refine blk_drewN ?_ _ | refine blk_drew ?_ | refine blk_alloc ?_ _)); exact BK193.out⟩, ⟨by (with_reducible repeat (first | refine blk_drewN ?_ _ | refine blk_drew ?_ | refine blk_alloc ?_ _)); exact BK202.out⟩, ⟨by repeat (first | (with_reducible first | exact HB.out | apply below_alloc | apply pw_below_drewN | apply below_drew1 | refine below_set ?_ GE190.out | refine below_set ?_ GE191.out | refine below_set ?_ GE193.out | refine below_set ?_ GE202.out) | exact HB.out)⟩⟩
                            · rw [if_neg c54] at H
                              have c54b0 : (t206 == 0) = false := beq_eq_false_iff_ne.mpr c54
                              have c54b1 : (t206 != 0) = true := bne_iff_ne.mpr c54
                              obtain rfl := Option.some.inj H
                              have hnb84 := NB202_190.out
                              have hnc84 := NB190_202.out
                              have hnb85 := NB202_191.out
                              have hnc85 := NB191_202.out
                              have hnb86 := NB202_193.out
                              have hnc86 := NB193_202.out
                              have hcz87_0 : wr.cell? ⟨gb202, 0, none⟩ = some (.int .u64 t198) := (blk_cell BK202.out 0).trans rfl
                              have hcz87_1 : wr.cell? ⟨gb202, 1, none⟩ = some (u203001) := (blk_cell BK202.out 1).trans rfl
                              have hfz87_0 := blk_frozen BK202.out 0
                              have hfz87_1 := blk_frozen BK202.out 1
                              obtain ⟨Ao88, co88, eo88⟩ := Kd.R_slice HO_203001.out
                              subst eo88
                              have p203 : 0 ≤ (x56_2 : Int) := of_decide_eq_true (by first | (with_reducible assumption) | assumption)
                              have q203 : x56_2 < (x203001_2.length : Int) := of_decide_eq_true (by first | (with_reducible assumption) | assumption)
                              obtain ⟨ad203, e203, hx203_0, hx203_1⟩ := at_T44 (Kd.R_reads' HO_203001.out).2.2 x56_2 p203 q203
                              cases e203
                              replace p203 := eq_true p203
                              replace q203 := eq_true q203
                              have p52 : 0 ≤ (x56_2 : Int) := of_decide_eq_true (by first | (with_reducible assumption) | assumption)
                              have q52 : (x56_2 : Int) < ((x203001_2.length : Int) : Int) := of_decide_eq_true (by first | (with_reducible assumption) | assumption)
                              obtain ⟨go52, co52, eo52, gb52, gl52, cl52, HG52⟩ := Kd.R_form HO_203001.out (by omega)
                              (first | cases eo52 | (injection eo52 with ea_ en_ ec_; (first | subst ea_ | (injection ea_ with ea_; subst ea_)); subst ec_; clear en_))
                              have GB52 := Aside0.mk gb52
                              have GG52 := Aside0.mk HG52
                              clear gb52 gl52 HG52
                              (first | simp only [add_plain] at hx203_0 | skip)
                              (first | simp only [add_plain] at hx203_1 | skip)
                              obtain ⟨ce52, hcl52, hM52, hcc52, hfr52⟩ := Kd.R_elem HO_203001.out z44 (x56_2 : Int) p52 q52
                              obtain rfl := k44_openM hM52
                              have hx52_0 : wr.cell? ⟨go52, (x56_2 : Int).toNat * 2, none⟩ = some (.int .u64 ((rd_T44 x203001_2 x56_2).f0)) := hcc52 0 _ rfl
                              have hx52_1 : wr.cell? ⟨go52, (x56_2 : Int).toNat * 2 + 1, none⟩ = some (.int .u64 ((rd_T44 x203001_2 x56_2).f1)) := hcc52 1 _ rfl
                              have hf52_0 : wr.frozen? ⟨go52, (x56_2 : Int).toNat * 2, none⟩ = false := hfr52 0
                              have hf52_1 : wr.frozen? ⟨go52, (x56_2 : Int).toNat * 2 + 1, none⟩ = false := hfr52 1
                              clear hcl52 hcc52 hfr52 hM52
                              replace p52 := eq_true p52
                              replace q52 := eq_true q52
                              have HX89 := Aside0.mk (show Kd.R k44 44 wr w.heap.size (fun _ => True) (.slice (some ⟨go52, 0, none⟩) x203001_2.length co88) x203001_2 from (by (with_reducible repeat (first | apply Kd.R_alloc | apply Kd.R_drewN | apply Kd.R_drew)); exact HO_203001.out))
                              obtain ⟨ce89, hcl89, hM89, hcc89, hfr89⟩ := Kd.R_elem HX89.out z44 (x56_2 : Int) (of_decide_eq_true (by first | (with_reducible assumption) | assumption)) (by have h_ : (x56_2 : Int) < ((x203001_2.length : Int) : Int) := of_decide_eq_true (by first | (with_reducible assumption) | assumption); first | exact h_ | (have e_ := (Kd.R_reads' HO_203001.out).1; omega) | simpa using h_)
                              obtain rfl := k44_openM hM89
                              have HP89 := Kd.R_seg HX89.out (x56_2 : Int) (of_decide_eq_true (by first | (with_reducible assumption) | assumption)) (by have h_ : (x56_2 : Int) < ((x203001_2.length : Int) : Int) := of_decide_eq_true (by first | (with_reducible assumption) | assumption); first | exact h_ | (have e_ := (Kd.R_reads' HO_203001.out).1; omega) | simpa using h_) (seg := [.int .u64 (IntKind.u64.wrap (x10_2 + 1))]) (j := 1) hcl89 hcc89 (show 2 ≤ 2 from by decide) (x' := (⟨(rd_T44 x203001_2 x56_2).f0, IntKind.u64.wrap (x10_2 + 1)⟩ : S44)) (k44_mkM _ _ _ (⟨(rd_T44 x203001_2 x56_2).f0, IntKind.u64.wrap (x10_2 + 1)⟩ : S44) ) (fun _ hk => hk)
                              have hx89_1 := hcc89 1 _ rfl
                              (try simp only [show (k44).sz = 2 from rfl, Nat.mul_one, Nat.add_zero] at hx89_1)
                              have hf89_1 := hfr89 1
                              (try simp only [show (k44).sz = 2 from rfl, Nat.mul_one, Nat.add_zero] at hf89_1)
                              clear hcl89 hcc89 hfr89 hM89
                              go_wp2_with (first | ((with_reducible refine gate_store (t := 22) (p := 73) rfl ?_); refine store_event (t := 22) (p := 73) (v := ?vo_w90) (w1 := (wr.setCell ⟨go52, (x56_2 : Int).toNat * 2 + 1, none⟩ (.int .u64 (IntKind.u64.wrap (x10_2 + 1))))) ?hg ?ho ?hn ?hr ?_; (case ho => rfl); (case hg => rfl); (case hn => rfl); (case hr => first | (go_simp; done) | (go_simp; rfl)); intro w90 hw; have hg : wr.grownBy w90 (some go52) := (by rw [hw]; exact HP89.2); have hp_ : Kd.R k44 44 w90 w.heap.size (fun _ => True) (.slice (some ⟨go52, 0, none⟩) x203001_2.length co88) y204 := (by rw [hw, Ny204.out]; exact HP89.1); clear HP89; have n0_ := Aside0.mk (hp_); have n1_ := Aside0.mk (blk_grown (g := gb190) (o := .cells #[.int .u64 a0_0, .slice A0_1 l0_1.length c0_1] 25 (0, 0)) (by (with_reducible repeat (first | refine blk_drewN ?_ _ | refine blk_drew ?_ | refine blk_alloc ?_ _)); exact BK190.out) hg (Kd.R_ne HO_203001.out BK190.out (by decide))); have n2_ := Aside0.mk (blk_grown (g := gb191) (o := .cells #[.int .u32 a2_0, .int .u64 a2_1, .int .u64 a2_2, .int .i64 a2_3, .int .i64 a2_4, .int .i64 a2_5, .int .i64 a2_6, .int .i64 a2_7] 32 (0, 0)) (by (with_reducible repeat (first | refine blk_drewN ?_ _ | refine blk_drew ?_ | refine blk_alloc ?_ _)); exact BK191.out) hg (Kd.R_ne HO_203001.out BK191.out (by decide))); have n3_ := Aside0.mk (blk_grown (g := gb193) (o := .cells #[.int .u64 0, .bool true, .int .u64 a1] 27 (0, 0)) (by (with_reducible repeat (first | refine blk_drewN ?_ _ | refine blk_drew ?_ | refine blk_alloc ?_ _)); exact BK193.out) hg (Kd.R_ne HO_203001.out BK193.out (by decide))); have n4_ := Aside0.mk (blk_grown (g := gb202) (o := .cells #[.int .u64 t198, .slice (some ⟨go52, 0, none⟩) x203001_2.length co88] 25 (0, 0)) (by (with_reducible repeat (first | refine blk_drewN ?_ _ | refine blk_drew ?_ | refine blk_alloc ?_ _)); exact BK202.out) hg (Kd.R_ne HO_203001.out BK202.out (by decide))); have n5_ := Aside0.mk ((by rw [hw]; exact below_set (HB.out) GB52.out : Below w.heap.size w w90)); clear HO_203001; clear BK190; clear BK191; clear BK193; clear BK202; clear HB; have HO_203001 := n0_; have BK190 := n1_; have BK191 := n2_; have BK193 := n3_; have BK202 := n4_; have HB := n5_; clear n0_ n1_ n2_ n3_ n4_ n5_; clear hg hw hp_; have hcz91_0 : w90.cell? ⟨gb202, 0, none⟩ = some (.int .u64 t198) := (blk_cell BK202.out 0).trans rfl; have hcz91_1 : w90.cell? ⟨gb202, 1, none⟩ = some (.slice (some ⟨go52, 0, none⟩) x203001_2.length co88) := (blk_cell BK202.out 1).trans rfl; have hfz91_0 := blk_frozen BK202.out 0; have hfz91_1 := blk_frozen BK202.out 1; have hnb92 := NB193_190.out; have hnc92 := NB190_193.out; have hnb93 := NB193_191.out; have hnc93 := NB191_193.out; have hcz94_0 : w90.cell? ⟨gb193, 0, none⟩ = some (.int .u64 0) := (blk_cell BK193.out 0).trans rfl; have hcz94_1 : w90.cell? ⟨gb193, 1, none⟩ = some (.bool true) := (blk_cell BK193.out 1).trans rfl; have hcz94_2 : w90.cell? ⟨gb193, 2, none⟩ = some (.int .u64 a1) := (blk_cell BK193.out 2).trans rfl; have hfz94_0 := blk_frozen BK193.out 0; have hfz94_1 := blk_frozen BK193.out 1; have hfz94_2 := blk_frozen BK193.out 2; have hnb95 := NB191_190.out; have hnc95 := NB190_191.out; have hcz96_0 : w90.cell? ⟨gb191, 0, none⟩ = some (.int .u32 a2_0) := (blk_cell BK191.out 0).trans rfl; have hcz96_1 : w90.cell? ⟨gb191, 1, none⟩ = some (.int .u64 a2_1) := (blk_cell BK191.out 1).trans rfl; have hcz96_2 : w90.cell? ⟨gb191, 2, none⟩ = some (.int .u64 a2_2) := (blk_cell BK191.out 2).trans rfl; have hcz96_3 : w90.cell? ⟨gb191, 3, none⟩ = some (.int .i64 a2_3) := (blk_cell BK191.out 3).trans rfl; have hcz96_4 : w90.cell? ⟨gb191, 4, none⟩ = some (.int .i64 a2_4) := (blk_cell BK191.out 4).trans rfl; have hcz96_5 : w90.cell? ⟨gb191, 5, none⟩ = some (.int .i64 a2_5) := (blk_cell BK191.out 5).trans rfl; have hcz96_6 : w90.cell? ⟨gb191, 6, none⟩ = some (.int .i64 a2_6) := (blk_cell BK191.out 6).trans rfl; have hcz96_7 : w90.cell? ⟨gb191, 7, none⟩ = some (.int .i64 a2_7) := (blk_cell BK191.out 7).trans rfl; have hfz96_0 := blk_frozen BK191.out 0; have hfz96_1 := blk_frozen BK191.out 1; have hfz96_2 := blk_frozen BK191.out 2; have hfz96_3 := blk_frozen BK191.out 3; have hfz96_4 := blk_frozen BK191.out 4; have hfz96_5 := blk_frozen BK191.out 5; have hfz96_6 := blk_frozen BK191.out 6; have hfz96_7 := blk_frozen BK191.out 7) | ((with_reducible refine gate_callee (f := 12) rfl ?_); refine goesL_ (some 78) rfl rfl Try.func12 (by kernel_rfl) rfl #[.agg #[.int .u64 t198, .slice (some ⟨go52, 0, none⟩) y204.length co88], .agg #[.int .u64 0, .bool true, .int .u64 a1], .agg #[.int .u32 a2_0, .int .u64 a2_1, .int .u64 a2_2, .int .i64 a2_3, .int .i64 a2_4, .int .i64 a2_5, .int .i64 a2_6, .int .i64 a2_7]] rfl (by (try simp only [List.map_toArray, List.map_cons, List.map_nil]); first | done | (rw [show y204.length = x203001_2.length from (Kd.R_reads' HO_203001.out).1.symm] <;> rfl) | rfl | (simp only [List.length_drop, List.length_take]; rfl)) ?_; (with_reducible refine (vision_Sees.calls t198 _ _ y204 0 true a1 a2_0 a2_1 a2_2 a2_3 a2_4 a2_5 a2_6 a2_7 t205 t206 _ ?side1 ?side2 A53.out).mono ?_); (case side1 => repeat (first | exact (Kd.R_reads' HO_203001.out).2.2 | (with_reducible refine Kd.C_alloc ?_ _) | (with_reducible refine Kd.C_drewN ?_ _) | (with_reducible refine Kd.C_drew ?_))); (case side2 => rw [show y204.length = x203001_2.length from (Kd.R_reads' HO_203001.out).1.symm]; exact (Kd.R_reads' HO_203001.out).2.1); rintro e w97 ⟨rfl, hb⟩; refine ⟨_, rfl, ?_⟩; have n0_ := Aside0.mk (Kd.R_below (by (with_reducible repeat (first | apply Kd.R_alloc | apply Kd.R_drewN | apply Kd.R_drew)); exact HO_203001.out) hb); have n1_ := Aside0.mk (blk_below (g := gb190) (o := .cells #[.int .u64 a0_0, .slice A0_1 l0_1.length c0_1] 25 (0, 0)) (by (with_reducible repeat (first | refine blk_drewN ?_ _ | refine blk_drew ?_ | refine blk_alloc ?_ _)); exact BK190.out) hb); have n2_ := Aside0.mk (blk_below (g := gb191) (o := .cells #[.int .u32 a2_0, .int .u64 a2_1, .int .u64 a2_2, .int .i64 a2_3, .int .i64 a2_4, .int .i64 a2_5, .int .i64 a2_6, .int .i64 a2_7] 32 (0, 0)) (by (with_reducible repeat (first | refine blk_drewN ?_ _ | refine blk_drew ?_ | refine blk_alloc ?_ _)); exact BK191.out) hb); have n3_ := Aside0.mk (blk_below (g := gb193) (o := .cells #[.int .u64 0, .bool true, .int .u64 a1] 27 (0, 0)) (by (with_reducible repeat (first | refine blk_drewN ?_ _ | refine blk_drew ?_ | refine blk_alloc ?_ _)); exact BK193.out) hb); have n4_ := Aside0.mk (blk_below (g := gb202) (o := .cells #[.int .u64 t198, .slice (some ⟨go52, 0, none⟩) x203001_2.length co88] 25 (0, 0)) (by (with_reducible repeat (first | refine blk_drewN ?_ _ | refine blk_drew ?_ | refine blk_alloc ?_ _)); exact BK202.out) hb); have n5_ := Aside0.mk (below_step (by repeat (first | (with_reducible first | exact HB.out | apply below_alloc | apply pw_below_drewN | apply below_drew1 | refine below_set ?_ GE190.out | refine below_set ?_ GE191.out | refine below_set ?_ GE193.out | refine below_set ?_ GE202.out) | exact HB.out)) hb); clear HO_203001; clear BK190; clear BK191; clear BK193; clear BK202; clear HB; have HO_203001 := n0_; have BK190 := n1_; have BK191 := n2_; have BK193 := n3_; have BK202 := n4_; have HB := n5_; clear n0_ n1_ n2_ n3_ n4_ n5_; (try clear hb); (try clear hb2); (try clear hk); (try clear hi)))
                              go_ret
                              exact ⟨by first | rfl | (simp [errW_none, errW_some] <;> rfl) | (simp [*, errW_none, errW_some] <;> rfl), by repeat (first | (with_reducible first | exact HB.out | apply below_alloc | apply pw_below_drewN | apply below_drew1 | refine below_set ?_ GE190.out | refine below_set ?_ GE191.out | refine below_set ?_ GE193.out | refine below_set ?_ GE202.out) | exact HB.out)⟩
                          · rw [if_neg c51] at H
                            have c51b0 : (((rd_T44 x203001_2 x56_2).f1) == 0) = false := beq_eq_false_iff_ne.mpr c51
                            have c51b1 : (((rd_T44 x203001_2 x56_2).f1) != 0) = true := bne_iff_ne.mpr c51
                            replace H := Option.bind_eq_some_iff.mp H
                            obtain ⟨⟨t207, t208⟩, A980, H⟩ := H
                            replace H : (if t208 = 0 then (if (t207 != t194) = true then (some false) else (gazetteerlaw17_VisionStays.l1 k2 t194 x10_2 (t199.length : Int) (wrap64 (x56_2 + 1)) a2_0 a2_1 a2_2 a2_3 a2_4 a2_5 a2_6 a2_7 0 true a1 t198 x203001_2)) else (some false)) = some r := H
                            have A98 := Aside0.mk A980
                            clear A980
                            by_cases c99 : t208 = 0
                            · rw [if_pos c99] at H
                              have c99b0 : (t208 == 0) = true := beq_iff_eq.mpr c99
                              have c99b1 : (t208 != 0) = false := bne_eq_false_iff_eq.mpr c99
                              clear c99
                              by_cases c100 : (t207 != t194) = true
                              · rw [if_pos c100] at H
                                have c100b0 : (t207 != t194) = true := c100
                                (try (have c100b1 : decide (t207 = t194) = false := by simpa using c100))
                                (try (have c100b2 : (t207 == t194) = false := by simpa using c100))
                                (try (have c100b3 : ¬ (t207 = t194) := by simpa using c100))
                                clear c100
                                obtain rfl := Option.some.inj H
                                have hnb101 := NB202_190.out
                                have hnc101 := NB190_202.out
                                have hnb102 := NB202_191.out
                                have hnc102 := NB191_202.out
                                have hnb103 := NB202_193.out
                                have hnc103 := NB193_202.out
                                have hcz104_0 : wr.cell? ⟨gb202, 0, none⟩ = some (.int .u64 t198) := (blk_cell BK202.out 0).trans rfl
                                have hcz104_1 : wr.cell? ⟨gb202, 1, none⟩ = some (u203001) := (blk_cell BK202.out 1).trans rfl
                                have hfz104_0 := blk_frozen BK202.out 0
                                have hfz104_1 := blk_frozen BK202.out 1
                                obtain ⟨Ao105, co105, eo105⟩ := Kd.R_slice HO_203001.out
                                subst eo105
                                have p203 : 0 ≤ (x56_2 : Int) := of_decide_eq_true (by first | (with_reducible assumption) | assumption)
                                have q203 : x56_2 < (x203001_2.length : Int) := of_decide_eq_true (by first | (with_reducible assumption) | assumption)
                                obtain ⟨ad203, e203, hx203_0, hx203_1⟩ := at_T44 (Kd.R_reads' HO_203001.out).2.2 x56_2 p203 q203
                                cases e203
                                replace p203 := eq_true p203
                                replace q203 := eq_true q203
                                have hnb106 := NB193_190.out
                                have hnc106 := NB190_193.out
                                have hnb107 := NB193_191.out
                                have hnc107 := NB191_193.out
                                have hcz108_0 : wr.cell? ⟨gb193, 0, none⟩ = some (.int .u64 0) := (blk_cell BK193.out 0).trans rfl
                                have hcz108_1 : wr.cell? ⟨gb193, 1, none⟩ = some (.bool true) := (blk_cell BK193.out 1).trans rfl
                                have hcz108_2 : wr.cell? ⟨gb193, 2, none⟩ = some (.int .u64 a1) := (blk_cell BK193.out 2).trans rfl
                                have hfz108_0 := blk_frozen BK193.out 0
                                have hfz108_1 := blk_frozen BK193.out 1
                                have hfz108_2 := blk_frozen BK193.out 2
                                have hnb109 := NB191_190.out
                                have hnc109 := NB190_191.out
                                have hcz110_0 : wr.cell? ⟨gb191, 0, none⟩ = some (.int .u32 a2_0) := (blk_cell BK191.out 0).trans rfl
                                have hcz110_1 : wr.cell? ⟨gb191, 1, none⟩ = some (.int .u64 a2_1) := (blk_cell BK191.out 1).trans rfl
                                have hcz110_2 : wr.cell? ⟨gb191, 2, none⟩ = some (.int .u64 a2_2) := (blk_cell BK191.out 2).trans rfl
                                have hcz110_3 : wr.cell? ⟨gb191, 3, none⟩ = some (.int .i64 a2_3) := (blk_cell BK191.out 3).trans rfl
                                have hcz110_4 : wr.cell? ⟨gb191, 4, none⟩ = some (.int .i64 a2_4) := (blk_cell BK191.out 4).trans rfl
                                have hcz110_5 : wr.cell? ⟨gb191, 5, none⟩ = some (.int .i64 a2_5) := (blk_cell BK191.out 5).trans rfl
                                have hcz110_6 : wr.cell? ⟨gb191, 6, none⟩ = some (.int .i64 a2_6) := (blk_cell BK191.out 6).trans rfl
                                have hcz110_7 : wr.cell? ⟨gb191, 7, none⟩ = some (.int .i64 a2_7) := (blk_cell BK191.out 7).trans rfl
                                have hfz110_0 := blk_frozen BK191.out 0
                                have hfz110_1 := blk_frozen BK191.out 1
                                have hfz110_2 := blk_frozen BK191.out 2
                                have hfz110_3 := blk_frozen BK191.out 3
                                have hfz110_4 := blk_frozen BK191.out 4
                                have hfz110_5 := blk_frozen BK191.out 5
                                have hfz110_6 := blk_frozen BK191.out 6
                                have hfz110_7 := blk_frozen BK191.out 7
                                go_wp2_with (first | ((with_reducible refine gate_callee (f := 12) rfl ?_); refine goesL_ (some 78) rfl rfl Try.func12 (by kernel_rfl) rfl #[.agg #[.int .u64 t198, .slice (some ad203) x203001_2.length co105], .agg #[.int .u64 0, .bool true, .int .u64 a1], .agg #[.int .u32 a2_0, .int .u64 a2_1, .int .u64 a2_2, .int .i64 a2_3, .int .i64 a2_4, .int .i64 a2_5, .int .i64 a2_6, .int .i64 a2_7]] rfl (by (try simp only [List.map_toArray, List.map_cons, List.map_nil]); first | done | rfl | (simp only [List.length_drop, List.length_take]; rfl)) ?_; (with_reducible refine (vision_Sees.calls t198 _ _ x203001_2 0 true a1 a2_0 a2_1 a2_2 a2_3 a2_4 a2_5 a2_6 a2_7 t207 t208 _ ?side1 ?side2 A98.out).mono ?_); (case side1 => repeat (first | exact (Kd.R_reads' HO_203001.out).2.2 | (with_reducible refine Kd.C_alloc ?_ _) | (with_reducible refine Kd.C_drewN ?_ _) | (with_reducible refine Kd.C_drew ?_))); (case side2 => exact (Kd.R_reads' HO_203001.out).2.1); rintro e w111 ⟨rfl, hb⟩; refine ⟨_, rfl, ?_⟩; have n0_ := Aside0.mk (Kd.R_below (by (with_reducible repeat (first | apply Kd.R_alloc | apply Kd.R_drewN | apply Kd.R_drew)); exact HO_203001.out) hb); have n1_ := Aside0.mk (blk_below (g := gb190) (o := .cells #[.int .u64 a0_0, .slice A0_1 l0_1.length c0_1] 25 (0, 0)) (by (with_reducible repeat (first | refine blk_drewN ?_ _ | refine blk_drew ?_ | refine blk_alloc ?_ _)); exact BK190.out) hb); have n2_ := Aside0.mk (blk_below (g := gb191) (o := .cells #[.int .u32 a2_0, .int .u64 a2_1, .int .u64 a2_2, .int .i64 a2_3, .int .i64 a2_4, .int .i64 a2_5, .int .i64 a2_6, .int .i64 a2_7] 32 (0, 0)) (by (with_reducible repeat (first | refine blk_drewN ?_ _ | refine blk_drew ?_ | refine blk_alloc ?_ _)); exact BK191.out) hb); have n3_ := Aside0.mk (blk_below (g := gb193) (o := .cells #[.int .u64 0, .bool true, .int .u64 a1] 27 (0, 0)) (by (with_reducible repeat (first | refine blk_drewN ?_ _ | refine blk_drew ?_ | refine blk_alloc ?_ _)); exact BK193.out) hb); have n4_ := Aside0.mk (blk_below (g := gb202) (o := .cells #[.int .u64 t198, .slice (some ad203) x203001_2.length co105] 25 (0, 0)) (by (with_reducible repeat (first | refine blk_drewN ?_ _ | refine blk_drew ?_ | refine blk_alloc ?_ _)); exact BK202.out) hb); have n5_ := Aside0.mk (below_step (by repeat (first | (with_reducible first | exact HB.out | apply below_alloc | apply pw_below_drewN | apply below_drew1 | refine below_set ?_ GE190.out | refine below_set ?_ GE191.out | refine below_set ?_ GE193.out | refine below_set ?_ GE202.out) | exact HB.out)) hb); clear HO_203001; clear BK190; clear BK191; clear BK193; clear BK202; clear HB; have HO_203001 := n0_; have BK190 := n1_; have BK191 := n2_; have BK193 := n3_; have BK202 := n4_; have HB := n5_; clear n0_ n1_ n2_ n3_ n4_ n5_; (try clear hb); (try clear hb2); (try clear hk); (try clear hi)))
                                go_ret
                                exact ⟨by first | rfl | (simp [errW_none, errW_some] <;> rfl) | (simp [*, errW_none, errW_some] <;> rfl), by repeat (first | (with_reducible first | exact HB.out | apply below_alloc | apply pw_below_drewN | apply below_drew1 | refine below_set ?_ GE190.out | refine below_set ?_ GE191.out | refine below_set ?_ GE193.out | refine below_set ?_ GE202.out) | exact HB.out)⟩
                              · rw [if_neg c100] at H
                                have c100b0 : (t207 != t194) = false := by simpa using c100
                                (try (have c100b1 : decide (t207 = t194) = true := by simpa using c100))
                                (try (have c100b2 : (t207 == t194) = true := by simpa using c100))
                                clear c100
                                have H' := Aside0.mk H
                                clear H
                                have hnb112 := NB202_190.out
                                have hnc112 := NB190_202.out
                                have hnb113 := NB202_191.out
                                have hnc113 := NB191_202.out
                                have hnb114 := NB202_193.out
                                have hnc114 := NB193_202.out
                                have hcz115_0 : wr.cell? ⟨gb202, 0, none⟩ = some (.int .u64 t198) := (blk_cell BK202.out 0).trans rfl
                                have hcz115_1 : wr.cell? ⟨gb202, 1, none⟩ = some (u203001) := (blk_cell BK202.out 1).trans rfl
                                have hfz115_0 := blk_frozen BK202.out 0
                                have hfz115_1 := blk_frozen BK202.out 1
                                obtain ⟨Ao116, co116, eo116⟩ := Kd.R_slice HO_203001.out
                                subst eo116
                                have p203 : 0 ≤ (x56_2 : Int) := of_decide_eq_true (by first | (with_reducible assumption) | assumption)
                                have q203 : x56_2 < (x203001_2.length : Int) := of_decide_eq_true (by first | (with_reducible assumption) | assumption)
                                obtain ⟨ad203, e203, hx203_0, hx203_1⟩ := at_T44 (Kd.R_reads' HO_203001.out).2.2 x56_2 p203 q203
                                cases e203
                                replace p203 := eq_true p203
                                replace q203 := eq_true q203
                                have hnb117 := NB193_190.out
                                have hnc117 := NB190_193.out
                                have hnb118 := NB193_191.out
                                have hnc118 := NB191_193.out
                                have hcz119_0 : wr.cell? ⟨gb193, 0, none⟩ = some (.int .u64 0) := (blk_cell BK193.out 0).trans rfl
                                have hcz119_1 : wr.cell? ⟨gb193, 1, none⟩ = some (.bool true) := (blk_cell BK193.out 1).trans rfl
                                have hcz119_2 : wr.cell? ⟨gb193, 2, none⟩ = some (.int .u64 a1) := (blk_cell BK193.out 2).trans rfl
                                have hfz119_0 := blk_frozen BK193.out 0
                                have hfz119_1 := blk_frozen BK193.out 1
                                have hfz119_2 := blk_frozen BK193.out 2
                                have hnb120 := NB191_190.out
                                have hnc120 := NB190_191.out
                                have hcz121_0 : wr.cell? ⟨gb191, 0, none⟩ = some (.int .u32 a2_0) := (blk_cell BK191.out 0).trans rfl
                                have hcz121_1 : wr.cell? ⟨gb191, 1, none⟩ = some (.int .u64 a2_1) := (blk_cell BK191.out 1).trans rfl
                                have hcz121_2 : wr.cell? ⟨gb191, 2, none⟩ = some (.int .u64 a2_2) := (blk_cell BK191.out 2).trans rfl
                                have hcz121_3 : wr.cell? ⟨gb191, 3, none⟩ = some (.int .i64 a2_3) := (blk_cell BK191.out 3).trans rfl
                                have hcz121_4 : wr.cell? ⟨gb191, 4, none⟩ = some (.int .i64 a2_4) := (blk_cell BK191.out 4).trans rfl
                                have hcz121_5 : wr.cell? ⟨gb191, 5, none⟩ = some (.int .i64 a2_5) := (blk_cell BK191.out 5).trans rfl
                                have hcz121_6 : wr.cell? ⟨gb191, 6, none⟩ = some (.int .i64 a2_6) := (blk_cell BK191.out 6).trans rfl
                                have hcz121_7 : wr.cell? ⟨gb191, 7, none⟩ = some (.int .i64 a2_7) := (blk_cell BK191.out 7).trans rfl
                                have hfz121_0 := blk_frozen BK191.out 0
                                have hfz121_1 := blk_frozen BK191.out 1
                                have hfz121_2 := blk_frozen BK191.out 2
                                have hfz121_3 := blk_frozen BK191.out 3
                                have hfz121_4 := blk_frozen BK191.out 4
                                have hfz121_5 := blk_frozen BK191.out 5
                                have hfz121_6 := blk_frozen BK191.out 6
                                have hfz121_7 := blk_frozen BK191.out 7
                                go_wp2_with (first | ((with_reducible refine gate_callee (f := 12) rfl ?_); refine goesL_ (some 78) rfl rfl Try.func12 (by kernel_rfl) rfl #[.agg #[.int .u64 t198, .slice (some ad203) x203001_2.length co116], .agg #[.int .u64 0, .bool true, .int .u64 a1], .agg #[.int .u32 a2_0, .int .u64 a2_1, .int .u64 a2_2, .int .i64 a2_3, .int .i64 a2_4, .int .i64 a2_5, .int .i64 a2_6, .int .i64 a2_7]] rfl (by (try simp only [List.map_toArray, List.map_cons, List.map_nil]); first | done | rfl | (simp only [List.length_drop, List.length_take]; rfl)) ?_; (with_reducible refine (vision_Sees.calls t198 _ _ x203001_2 0 true a1 a2_0 a2_1 a2_2 a2_3 a2_4 a2_5 a2_6 a2_7 t207 t208 _ ?side1 ?side2 A98.out).mono ?_); (case side1 => repeat (first | exact (Kd.R_reads' HO_203001.out).2.2 | (with_reducible refine Kd.C_alloc ?_ _) | (with_reducible refine Kd.C_drewN ?_ _) | (with_reducible refine Kd.C_drew ?_))); (case side2 => exact (Kd.R_reads' HO_203001.out).2.1); rintro e w122 ⟨rfl, hb⟩; refine ⟨_, rfl, ?_⟩; have n0_ := Aside0.mk (Kd.R_below (by (with_reducible repeat (first | apply Kd.R_alloc | apply Kd.R_drewN | apply Kd.R_drew)); exact HO_203001.out) hb); have n1_ := Aside0.mk (blk_below (g := gb190) (o := .cells #[.int .u64 a0_0, .slice A0_1 l0_1.length c0_1] 25 (0, 0)) (by (with_reducible repeat (first | refine blk_drewN ?_ _ | refine blk_drew ?_ | refine blk_alloc ?_ _)); exact BK190.out) hb); have n2_ := Aside0.mk (blk_below (g := gb191) (o := .cells #[.int .u32 a2_0, .int .u64 a2_1, .int .u64 a2_2, .int .i64 a2_3, .int .i64 a2_4, .int .i64 a2_5, .int .i64 a2_6, .int .i64 a2_7] 32 (0, 0)) (by (with_reducible repeat (first | refine blk_drewN ?_ _ | refine blk_drew ?_ | refine blk_alloc ?_ _)); exact BK191.out) hb); have n3_ := Aside0.mk (blk_below (g := gb193) (o := .cells #[.int .u64 0, .bool true, .int .u64 a1] 27 (0, 0)) (by (with_reducible repeat (first | refine blk_drewN ?_ _ | refine blk_drew ?_ | refine blk_alloc ?_ _)); exact BK193.out) hb); have n4_ := Aside0.mk (blk_below (g := gb202) (o := .cells #[.int .u64 t198, .slice (some ad203) x203001_2.length co116] 25 (0, 0)) (by (with_reducible repeat (first | refine blk_drewN ?_ _ | refine blk_drew ?_ | refine blk_alloc ?_ _)); exact BK202.out) hb); have n5_ := Aside0.mk (below_step (by repeat (first | (with_reducible first | exact HB.out | apply below_alloc | apply pw_below_drewN | apply below_drew1 | refine below_set ?_ GE190.out | refine below_set ?_ GE191.out | refine below_set ?_ GE193.out | refine below_set ?_ GE202.out) | exact HB.out)) hb); clear HO_203001; clear BK190; clear BK191; clear BK193; clear BK202; clear HB; have HO_203001 := n0_; have BK190 := n1_; have BK191 := n2_; have BK193 := n3_; have BK202 := n4_; have HB := n5_; clear n0_ n1_ n2_ n3_ n4_ n5_; (try clear hb); (try clear hb2); (try clear hk); (try clear hi)))
                                go_roundg k2
                                case measure => have := HK1.out; have := HK2.out; omega
                                case rel => exact ⟨(x10_2), (wrap64 (x56_2 + 1)), (x203001_2), (.slice (some ad203) x203001_2.length co116), (by first | rfl | (simp; done) | (simp [*]; done)), (by first | rfl | (simp; done) | (simp [*]; done)), H', ⟨by have := HK1.out; have := HK2.out; omega⟩, ⟨by (with_reducible repeat (first | apply Kd.R_alloc | apply Kd.R_drewN | apply Kd.R_drew)); exact HO_203001.out⟩, ⟨by (with_reducible repeat (first | refine blk_drewN ?_ _ | refine blk_drew ?_ | refine blk_alloc ?_ _)); exact BK190.out⟩, ⟨by (with_reducible repeat (first | refine blk_drewN ?_ _ | refine blk_drew ?_ | refine blk_alloc ?_ _)); exact BK191.out⟩, ⟨by (with_reducible repeat (first | refine blk_drewN ?_ _ | refine blk_drew ?_ | refine blk_alloc ?_ _)); exact BK193.out⟩, ⟨by (with_reducible repeat (first | refine blk_drewN ?_ _ | refine blk_drew ?_ | refine blk_alloc ?_ _)); exact BK202.out⟩, ⟨by repeat (first | (with_reducible first | exact HB.out | apply below_alloc | apply pw_below_drewN | apply below_drew1 | refine below_set ?_ GE190.out | refine below_set ?_ GE191.out | refine below_set ?_ GE193.out | refine below_set ?_ GE202.out) | exact HB.out)⟩⟩
                            · rw [if_neg c99] at H
                              have c99b0 : (t208 == 0) = false := beq_eq_false_iff_ne.mpr c99
                              have c99b1 : (t208 != 0) = true := bne_iff_ne.mpr c99
                              obtain rfl := Option.some.inj H
                              have hnb123 := NB202_190.out
                              have hnc123 := NB190_202.out
                              have hnb124 := NB202_191.out
                              have hnc124 := NB191_202.out
                              have hnb125 := NB202_193.out
                              have hnc125 := NB193_202.out
                              have hcz126_0 : wr.cell? ⟨gb202, 0, none⟩ = some (.int .u64 t198) := (blk_cell BK202.out 0).trans rfl
                              have hcz126_1 : wr.cell? ⟨gb202, 1, none⟩ = some (u203001) := (blk_cell BK202.out 1).trans rfl
                              have hfz126_0 := blk_frozen BK202.out 0
                              have hfz126_1 := blk_frozen BK202.out 1
                              obtain ⟨Ao127, co127, eo127⟩ := Kd.R_slice HO_203001.out
                              subst eo127
                              have p203 : 0 ≤ (x56_2 : Int) := of_decide_eq_true (by first | (with_reducible assumption) | assumption)
                              have q203 : x56_2 < (x203001_2.length : Int) := of_decide_eq_true (by first | (with_reducible assumption) | assumption)
                              obtain ⟨ad203, e203, hx203_0, hx203_1⟩ := at_T44 (Kd.R_reads' HO_203001.out).2.2 x56_2 p203 q203
                              cases e203
                              replace p203 := eq_true p203
                              replace q203 := eq_true q203
                              have hnb128 := NB193_190.out
                              have hnc128 := NB190_193.out
                              have hnb129 := NB193_191.out
                              have hnc129 := NB191_193.out
                              have hcz130_0 : wr.cell? ⟨gb193, 0, none⟩ = some (.int .u64 0) := (blk_cell BK193.out 0).trans rfl
                              have hcz130_1 : wr.cell? ⟨gb193, 1, none⟩ = some (.bool true) := (blk_cell BK193.out 1).trans rfl
                              have hcz130_2 : wr.cell? ⟨gb193, 2, none⟩ = some (.int .u64 a1) := (blk_cell BK193.out 2).trans rfl
                              have hfz130_0 := blk_frozen BK193.out 0
                              have hfz130_1 := blk_frozen BK193.out 1
                              have hfz130_2 := blk_frozen BK193.out 2
                              have hnb131 := NB191_190.out
                              have hnc131 := NB190_191.out
                              have hcz132_0 : wr.cell? ⟨gb191, 0, none⟩ = some (.int .u32 a2_0) := (blk_cell BK191.out 0).trans rfl
                              have hcz132_1 : wr.cell? ⟨gb191, 1, none⟩ = some (.int .u64 a2_1) := (blk_cell BK191.out 1).trans rfl
                              have hcz132_2 : wr.cell? ⟨gb191, 2, none⟩ = some (.int .u64 a2_2) := (blk_cell BK191.out 2).trans rfl
                              have hcz132_3 : wr.cell? ⟨gb191, 3, none⟩ = some (.int .i64 a2_3) := (blk_cell BK191.out 3).trans rfl
                              have hcz132_4 : wr.cell? ⟨gb191, 4, none⟩ = some (.int .i64 a2_4) := (blk_cell BK191.out 4).trans rfl
                              have hcz132_5 : wr.cell? ⟨gb191, 5, none⟩ = some (.int .i64 a2_5) := (blk_cell BK191.out 5).trans rfl
                              have hcz132_6 : wr.cell? ⟨gb191, 6, none⟩ = some (.int .i64 a2_6) := (blk_cell BK191.out 6).trans rfl
                              have hcz132_7 : wr.cell? ⟨gb191, 7, none⟩ = some (.int .i64 a2_7) := (blk_cell BK191.out 7).trans rfl
                              have hfz132_0 := blk_frozen BK191.out 0
                              have hfz132_1 := blk_frozen BK191.out 1
                              have hfz132_2 := blk_frozen BK191.out 2
                              have hfz132_3 := blk_frozen BK191.out 3
                              have hfz132_4 := blk_frozen BK191.out 4
                              have hfz132_5 := blk_frozen BK191.out 5
                              have hfz132_6 := blk_frozen BK191.out 6
                              have hfz132_7 := blk_frozen BK191.out 7
                              go_wp2_with (first | ((with_reducible refine gate_callee (f := 12) rfl ?_); refine goesL_ (some 78) rfl rfl Try.func12 (by kernel_rfl) rfl #[.agg #[.int .u64 t198, .slice (some ad203) x203001_2.length co127], .agg #[.int .u64 0, .bool true, .int .u64 a1], .agg #[.int .u32 a2_0, .int .u64 a2_1, .int .u64 a2_2, .int .i64 a2_3, .int .i64 a2_4, .int .i64 a2_5, .int .i64 a2_6, .int .i64 a2_7]] rfl (by (try simp only [List.map_toArray, List.map_cons, List.map_nil]); first | done | rfl | (simp only [List.length_drop, List.length_take]; rfl)) ?_; (with_reducible refine (vision_Sees.calls t198 _ _ x203001_2 0 true a1 a2_0 a2_1 a2_2 a2_3 a2_4 a2_5 a2_6 a2_7 t207 t208 _ ?side1 ?side2 A98.out).mono ?_); (case side1 => repeat (first | exact (Kd.R_reads' HO_203001.out).2.2 | (with_reducible refine Kd.C_alloc ?_ _) | (with_reducible refine Kd.C_drewN ?_ _) | (with_reducible refine Kd.C_drew ?_))); (case side2 => exact (Kd.R_reads' HO_203001.out).2.1); rintro e w133 ⟨rfl, hb⟩; refine ⟨_, rfl, ?_⟩; have n0_ := Aside0.mk (Kd.R_below (by (with_reducible repeat (first | apply Kd.R_alloc | apply Kd.R_drewN | apply Kd.R_drew)); exact HO_203001.out) hb); have n1_ := Aside0.mk (blk_below (g := gb190) (o := .cells #[.int .u64 a0_0, .slice A0_1 l0_1.length c0_1] 25 (0, 0)) (by (with_reducible repeat (first | refine blk_drewN ?_ _ | refine blk_drew ?_ | refine blk_alloc ?_ _)); exact BK190.out) hb); have n2_ := Aside0.mk (blk_below (g := gb191) (o := .cells #[.int .u32 a2_0, .int .u64 a2_1, .int .u64 a2_2, .int .i64 a2_3, .int .i64 a2_4, .int .i64 a2_5, .int .i64 a2_6, .int .i64 a2_7] 32 (0, 0)) (by (with_reducible repeat (first | refine blk_drewN ?_ _ | refine blk_drew ?_ | refine blk_alloc ?_ _)); exact BK191.out) hb); have n3_ := Aside0.mk (blk_below (g := gb193) (o := .cells #[.int .u64 0, .bool true, .int .u64 a1] 27 (0, 0)) (by (with_reducible repeat (first | refine blk_drewN ?_ _ | refine blk_drew ?_ | refine blk_alloc ?_ _)); exact BK193.out) hb); have n4_ := Aside0.mk (blk_below (g := gb202) (o := .cells #[.int .u64 t198, .slice (some ad203) x203001_2.length co127] 25 (0, 0)) (by (with_reducible repeat (first | refine blk_drewN ?_ _ | refine blk_drew ?_ | refine blk_alloc ?_ _)); exact BK202.out) hb); have n5_ := Aside0.mk (below_step (by repeat (first | (with_reducible first | exact HB.out | apply below_alloc | apply pw_below_drewN | apply below_drew1 | refine below_set ?_ GE190.out | refine below_set ?_ GE191.out | refine below_set ?_ GE193.out | refine below_set ?_ GE202.out) | exact HB.out)) hb); clear HO_203001; clear BK190; clear BK191; clear BK193; clear BK202; clear HB; have HO_203001 := n0_; have BK190 := n1_; have BK191 := n2_; have BK193 := n3_; have BK202 := n4_; have HB := n5_; clear n0_ n1_ n2_ n3_ n4_ n5_; (try clear hb); (try clear hb2); (try clear hk); (try clear hi)))
                              go_ret
                              exact ⟨by first | rfl | (simp [errW_none, errW_some] <;> rfl) | (simp [*, errW_none, errW_some] <;> rfl), by repeat (first | (with_reducible first | exact HB.out | apply below_alloc | apply pw_below_drewN | apply below_drew1 | refine below_set ?_ GE190.out | refine below_set ?_ GE191.out | refine below_set ?_ GE193.out | refine below_set ?_ GE202.out) | exact HB.out)⟩
                        · rw [if_neg c50] at H
                          exact absurd H (by simp)
                      · rw [if_neg c49] at H
                        exact absurd H (by simp)
                    · rw [if_neg c48] at H
                      have c48b0 : decide (x56_2 < (t199.length : Int)) = false := decide_eq_false c48
                      clear c48
                      obtain rfl := Option.some.inj H
                      go_wp2
                      go_ret
                      exact ⟨by first | rfl | (simp [errW_none, errW_some] <;> rfl) | (simp [*, errW_none, errW_some] <;> rfl), by repeat (first | (with_reducible first | exact HB.out | apply below_alloc | apply pw_below_drewN | apply below_drew1 | refine below_set ?_ GE190.out | refine below_set ?_ GE191.out | refine below_set ?_ GE193.out | refine below_set ?_ GE202.out) | exact HB.out)⟩
      · rw [if_neg c13] at H
        have c13b0 : (t195 == 0) = false := beq_eq_false_iff_ne.mpr c13
        have c13b1 : (t195 != 0) = true := bne_iff_ne.mpr c13
        obtain rfl := Option.some.inj H
        go_enter Try.func4, Try.ntmps4
        go_wp2_with (first | ((with_reducible refine gate_dst (N := 3) rfl ?_); refine box_event ?hg (N := 3) ?hd (cs := #[.int .u64 a0_0, .slice A0_1 l0_1.length c0_1]) (t := 25) ?hr ?_; (case hd => rfl); (case hg => rfl); (case hr => first | (go_simp; done) | (go_simp; rfl)); intro gb190 hg w134 hbox hb; have n0_ := Aside0.mk (below_step (by repeat (first | (with_reducible first | exact HB.out | apply below_alloc | apply pw_below_drewN | apply below_drew1) | exact HB.out)) hb); have n1_ := Aside0.mk (hbox); have n2_ := Aside0.mk ((by rw [hg]; exact (below_size (by repeat (first | (with_reducible first | exact HB.out | apply below_alloc | apply pw_below_drewN | apply below_drew1) | exact HB.out))) : w.heap.size ≤ gb190)); have n3_ := Aside0.mk ((by rw [hg]; exact (below_size (by repeat (first | (with_reducible first | exact HB.out | apply below_alloc | apply pw_below_drewN | apply below_drew1) | exact HB.out))) : w.heap.size ≤ gb190)); clear HB; have HB := n0_; have BK190 := n1_; have GW190 := n2_; have GE190 := n3_; clear n0_ n1_ n2_ n3_; clear hb hbox hg) | ((with_reducible refine gate_dst (N := 5) rfl ?_); refine box_event ?hg (N := 5) ?hd (cs := #[.int .u32 a2_0, .int .u64 a2_1, .int .u64 a2_2, .int .i64 a2_3, .int .i64 a2_4, .int .i64 a2_5, .int .i64 a2_6, .int .i64 a2_7]) (t := 32) ?hr ?_; (case hd => rfl); (case hg => rfl); (case hr => first | (go_simp; done) | (go_simp; rfl)); intro gb191 hg w135 hbox hb; have n0_ := Aside0.mk (blk_below (g := gb190) (o := .cells #[.int .u64 a0_0, .slice A0_1 l0_1.length c0_1] 25 (0, 0)) (by (with_reducible repeat (first | refine blk_drewN ?_ _ | refine blk_drew ?_ | refine blk_alloc ?_ _)); exact BK190.out) hb); have n1_ := Aside0.mk (below_step (by repeat (first | (with_reducible first | exact HB.out | apply below_alloc | apply pw_below_drewN | apply below_drew1 | refine below_set ?_ GE190.out) | exact HB.out)) hb); have n2_ := Aside0.mk (hbox); have n3_ := Aside0.mk ((by rw [hg]; exact (below_size (by repeat (first | (with_reducible first | exact HB.out | apply below_alloc | apply pw_below_drewN | apply below_drew1 | refine below_set ?_ GE190.out) | exact HB.out))) : w.heap.size ≤ gb191)); have n4_ := Aside0.mk ((by rw [hg]; exact (below_size (by repeat (first | (with_reducible first | exact HB.out | apply below_alloc | apply pw_below_drewN | apply below_drew1 | refine below_set ?_ GE190.out) | exact HB.out))) : w.heap.size ≤ gb191)); have n5_ := Aside0.mk ((by rw [hg]; exact Nat.ne_of_lt (blk_lt (g := gb190) (o := .cells #[.int .u64 a0_0, .slice A0_1 l0_1.length c0_1] 25 (0, 0)) (by (with_reducible repeat (first | refine blk_drewN ?_ _ | refine blk_drew ?_ | refine blk_alloc ?_ _)); exact BK190.out)) : gb190 ≠ gb191)); have n6_ := Aside0.mk ((by rw [hg]; exact Nat.ne_of_gt (blk_lt (g := gb190) (o := .cells #[.int .u64 a0_0, .slice A0_1 l0_1.length c0_1] 25 (0, 0)) (by (with_reducible repeat (first | refine blk_drewN ?_ _ | refine blk_drew ?_ | refine blk_alloc ?_ _)); exact BK190.out)) : gb191 ≠ gb190)); clear BK190; clear HB; have BK190 := n0_; have HB := n1_; have BK191 := n2_; have GW191 := n3_; have GE191 := n4_; have NB190_191 := n5_; have NB191_190 := n6_; clear n0_ n1_ n2_ n3_ n4_ n5_ n6_; clear hb hbox hg) | ((with_reducible refine gate_callee (f := 9) rfl ?_); refine goesL_ (some 17) rfl rfl Try.func9 (by kernel_rfl) rfl #[] rfl (by (try simp only [List.map_toArray, List.map_cons, List.map_nil]); first | done | rfl | (simp only [List.length_drop, List.length_take]; rfl)) ?_; (with_reducible refine (gazetteerlaw17_wakes.calls  true _ A4.out).mono ?_); rintro e w136 ⟨rfl, hb⟩; refine ⟨_, rfl, ?_⟩; have n0_ := Aside0.mk (blk_below (g := gb190) (o := .cells #[.int .u64 a0_0, .slice A0_1 l0_1.length c0_1] 25 (0, 0)) (by (with_reducible repeat (first | refine blk_drewN ?_ _ | refine blk_drew ?_ | refine blk_alloc ?_ _)); exact BK190.out) hb); have n1_ := Aside0.mk (blk_below (g := gb191) (o := .cells #[.int .u32 a2_0, .int .u64 a2_1, .int .u64 a2_2, .int .i64 a2_3, .int .i64 a2_4, .int .i64 a2_5, .int .i64 a2_6, .int .i64 a2_7] 32 (0, 0)) (by (with_reducible repeat (first | refine blk_drewN ?_ _ | refine blk_drew ?_ | refine blk_alloc ?_ _)); exact BK191.out) hb); have n2_ := Aside0.mk (below_step (by repeat (first | (with_reducible first | exact HB.out | apply below_alloc | apply pw_below_drewN | apply below_drew1 | refine below_set ?_ GE190.out | refine below_set ?_ GE191.out) | exact HB.out)) hb); clear BK190; clear BK191; clear HB; have BK190 := n0_; have BK191 := n1_; have HB := n2_; clear n0_ n1_ n2_; (try clear hb); (try clear hb2); (try clear hk); (try clear hi); have hnb137 := NB190_191.out; have hnc137 := NB191_190.out; have hcz138_0 : w136.cell? ⟨gb190, 0, none⟩ = some (.int .u64 a0_0) := (blk_cell BK190.out 0).trans rfl; have hcz138_1 : w136.cell? ⟨gb190, 1, none⟩ = some (.slice A0_1 l0_1.length c0_1) := (blk_cell BK190.out 1).trans rfl; have hfz138_0 := blk_frozen BK190.out 0; have hfz138_1 := blk_frozen BK190.out 1) | ((with_reducible refine gate_dst (N := 7) rfl ?_); refine box_event ?hg (N := 7) ?hd (cs := #[.int .u64 0, .bool false, .int .u64 0]) (t := 27) ?hr ?_; (case hd => rfl); (case hg => rfl); (case hr => first | (go_simp; done) | (go_simp; rfl)); intro gb193 hg w139 hbox hb; have n0_ := Aside0.mk (blk_below (g := gb190) (o := .cells #[.int .u64 a0_0, .slice A0_1 l0_1.length c0_1] 25 (0, 0)) (by (with_reducible repeat (first | refine blk_drewN ?_ _ | refine blk_drew ?_ | refine blk_alloc ?_ _)); exact BK190.out) hb); have n1_ := Aside0.mk (blk_below (g := gb191) (o := .cells #[.int .u32 a2_0, .int .u64 a2_1, .int .u64 a2_2, .int .i64 a2_3, .int .i64 a2_4, .int .i64 a2_5, .int .i64 a2_6, .int .i64 a2_7] 32 (0, 0)) (by (with_reducible repeat (first | refine blk_drewN ?_ _ | refine blk_drew ?_ | refine blk_alloc ?_ _)); exact BK191.out) hb); have n2_ := Aside0.mk (below_step (by repeat (first | (with_reducible first | exact HB.out | apply below_alloc | apply pw_below_drewN | apply below_drew1 | refine below_set ?_ GE190.out | refine below_set ?_ GE191.out) | exact HB.out)) hb); have n3_ := Aside0.mk (hbox); have n4_ := Aside0.mk ((by rw [hg]; exact (below_size (by repeat (first | (with_reducible first | exact HB.out | apply below_alloc | apply pw_below_drewN | apply below_drew1 | refine below_set ?_ GE190.out | refine below_set ?_ GE191.out) | exact HB.out))) : w.heap.size ≤ gb193)); have n5_ := Aside0.mk ((by rw [hg]; exact (below_size (by repeat (first | (with_reducible first | exact HB.out | apply below_alloc | apply pw_below_drewN | apply below_drew1 | refine below_set ?_ GE190.out | refine below_set ?_ GE191.out) | exact HB.out))) : w.heap.size ≤ gb193)); have n6_ := Aside0.mk ((by rw [hg]; exact Nat.ne_of_lt (blk_lt (g := gb190) (o := .cells #[.int .u64 a0_0, .slice A0_1 l0_1.length c0_1] 25 (0, 0)) (by (with_reducible repeat (first | refine blk_drewN ?_ _ | refine blk_drew ?_ | refine blk_alloc ?_ _)); exact BK190.out)) : gb190 ≠ gb193)); have n7_ := Aside0.mk ((by rw [hg]; exact Nat.ne_of_gt (blk_lt (g := gb190) (o := .cells #[.int .u64 a0_0, .slice A0_1 l0_1.length c0_1] 25 (0, 0)) (by (with_reducible repeat (first | refine blk_drewN ?_ _ | refine blk_drew ?_ | refine blk_alloc ?_ _)); exact BK190.out)) : gb193 ≠ gb190)); have n8_ := Aside0.mk ((by rw [hg]; exact Nat.ne_of_lt (blk_lt (g := gb191) (o := .cells #[.int .u32 a2_0, .int .u64 a2_1, .int .u64 a2_2, .int .i64 a2_3, .int .i64 a2_4, .int .i64 a2_5, .int .i64 a2_6, .int .i64 a2_7] 32 (0, 0)) (by (with_reducible repeat (first | refine blk_drewN ?_ _ | refine blk_drew ?_ | refine blk_alloc ?_ _)); exact BK191.out)) : gb191 ≠ gb193)); have n9_ := Aside0.mk ((by rw [hg]; exact Nat.ne_of_gt (blk_lt (g := gb191) (o := .cells #[.int .u32 a2_0, .int .u64 a2_1, .int .u64 a2_2, .int .i64 a2_3, .int .i64 a2_4, .int .i64 a2_5, .int .i64 a2_6, .int .i64 a2_7] 32 (0, 0)) (by (with_reducible repeat (first | refine blk_drewN ?_ _ | refine blk_drew ?_ | refine blk_alloc ?_ _)); exact BK191.out)) : gb193 ≠ gb191)); clear BK190; clear BK191; clear HB; have BK190 := n0_; have BK191 := n1_; have HB := n2_; have BK193 := n3_; have GW193 := n4_; have GE193 := n5_; have NB190_193 := n6_; have NB193_190 := n7_; have NB191_193 := n8_; have NB193_191 := n9_; clear n0_ n1_ n2_ n3_ n4_ n5_ n6_ n7_ n8_ n9_; clear hb hbox hg; have hnb140 := NB193_190.out; have hnc140 := NB190_193.out; have hnb141 := NB193_191.out; have hnc141 := NB191_193.out; have hcz142_0 : w139.cell? ⟨gb193, 0, none⟩ = some (.int .u64 0) := (blk_cell BK193.out 0).trans rfl; have hcz142_1 : w139.cell? ⟨gb193, 1, none⟩ = some (.bool false) := (blk_cell BK193.out 1).trans rfl; have hcz142_2 : w139.cell? ⟨gb193, 2, none⟩ = some (.int .u64 0) := (blk_cell BK193.out 2).trans rfl; have hfz142_0 := blk_frozen BK193.out 0; have hfz142_1 := blk_frozen BK193.out 1; have hfz142_2 := blk_frozen BK193.out 2; have hcz143_0 : w139.cell? ⟨gb190, 0, none⟩ = some (.int .u64 a0_0) := (blk_cell BK190.out 0).trans rfl; have hcz143_1 : w139.cell? ⟨gb190, 1, none⟩ = some (.slice A0_1 l0_1.length c0_1) := (blk_cell BK190.out 1).trans rfl; have hfz143_0 := blk_frozen BK190.out 0; have hfz143_1 := blk_frozen BK190.out 1; have hcz144_0 : w139.cell? ⟨gb191, 0, none⟩ = some (.int .u32 a2_0) := (blk_cell BK191.out 0).trans rfl; have hcz144_1 : w139.cell? ⟨gb191, 1, none⟩ = some (.int .u64 a2_1) := (blk_cell BK191.out 1).trans rfl; have hcz144_2 : w139.cell? ⟨gb191, 2, none⟩ = some (.int .u64 a2_2) := (blk_cell BK191.out 2).trans rfl; have hcz144_3 : w139.cell? ⟨gb191, 3, none⟩ = some (.int .i64 a2_3) := (blk_cell BK191.out 3).trans rfl; have hcz144_4 : w139.cell? ⟨gb191, 4, none⟩ = some (.int .i64 a2_4) := (blk_cell BK191.out 4).trans rfl; have hcz144_5 : w139.cell? ⟨gb191, 5, none⟩ = some (.int .i64 a2_5) := (blk_cell BK191.out 5).trans rfl; have hcz144_6 : w139.cell? ⟨gb191, 6, none⟩ = some (.int .i64 a2_6) := (blk_cell BK191.out 6).trans rfl; have hcz144_7 : w139.cell? ⟨gb191, 7, none⟩ = some (.int .i64 a2_7) := (blk_cell BK191.out 7).trans rfl; have hfz144_0 := blk_frozen BK191.out 0; have hfz144_1 := blk_frozen BK191.out 1; have hfz144_2 := blk_frozen BK191.out 2; have hfz144_3 := blk_frozen BK191.out 3; have hfz144_4 := blk_frozen BK191.out 4; have hfz144_5 := blk_frozen BK191.out 5; have hfz144_6 := blk_frozen BK191.out 6; have hfz144_7 := blk_frozen BK191.out 7) | ((with_reducible refine gate_callee (f := 12) rfl ?_); refine goesL_ (some 29) rfl rfl Try.func12 (by kernel_rfl) rfl #[.agg #[.int .u64 a0_0, .slice A0_1 l0_1.length c0_1], .agg #[.int .u64 0, .bool true, .int .u64 a1], .agg #[.int .u32 a2_0, .int .u64 a2_1, .int .u64 a2_2, .int .i64 a2_3, .int .i64 a2_4, .int .i64 a2_5, .int .i64 a2_6, .int .i64 a2_7]] rfl (by (try simp only [List.map_toArray, List.map_cons, List.map_nil]); first | done | rfl | (simp only [List.length_drop, List.length_take]; rfl)) ?_; (with_reducible refine (vision_Sees.calls a0_0 _ _ l0_1 0 true a1 a2_0 a2_1 a2_2 a2_3 a2_4 a2_5 a2_6 a2_7 t194 t195 _ ?side1 ?side2 A12.out).mono ?_); (case side1 => exact Kd.C_below HR0_1.out (by repeat (first | (with_reducible first | exact HB.out | apply below_alloc | apply pw_below_drewN | apply below_drew1 | refine below_set ?_ GE190.out | refine below_set ?_ GE191.out | refine below_set ?_ GE193.out) | exact HB.out))); (case side2 => exact HC0_1.out); rintro e w145 ⟨rfl, hb⟩; refine ⟨_, rfl, ?_⟩; have n0_ := Aside0.mk (blk_below (g := gb190) (o := .cells #[.int .u64 a0_0, .slice A0_1 l0_1.length c0_1] 25 (0, 0)) (by (with_reducible repeat (first | refine blk_drewN ?_ _ | refine blk_drew ?_ | refine blk_alloc ?_ _)); refine blk_far ?_ NB190_193.out _; (with_reducible repeat (first | refine blk_drewN ?_ _ | refine blk_drew ?_ | refine blk_alloc ?_ _)); refine blk_far ?_ NB190_193.out _; (with_reducible repeat (first | refine blk_drewN ?_ _ | refine blk_drew ?_ | refine blk_alloc ?_ _)); refine blk_far ?_ NB190_193.out _; (with_reducible repeat (first | refine blk_drewN ?_ _ | refine blk_drew ?_ | refine blk_alloc ?_ _)); exact BK190.out) hb); have n1_ := Aside0.mk (blk_below (g := gb191) (o := .cells #[.int .u32 a2_0, .int .u64 a2_1, .int .u64 a2_2, .int .i64 a2_3, .int .i64 a2_4, .int .i64 a2_5, .int .i64 a2_6, .int .i64 a2_7] 32 (0, 0)) (by (with_reducible repeat (first | refine blk_drewN ?_ _ | refine blk_drew ?_ | refine blk_alloc ?_ _)); refine blk_far ?_ NB191_193.out _; (with_reducible repeat (first | refine blk_drewN ?_ _ | refine blk_drew ?_ | refine blk_alloc ?_ _)); refine blk_far ?_ NB191_193.out _; (with_reducible repeat (first | refine blk_drewN ?_ _ | refine blk_drew ?_ | refine blk_alloc ?_ _)); refine blk_far ?_ NB191_193.out _; (with_reducible repeat (first | refine blk_drewN ?_ _ | refine blk_drew ?_ | refine blk_alloc ?_ _)); exact BK191.out) hb); have n2_ := Aside0.mk (blk_below (g := gb193) (o := .cells #[.int .u64 0, .bool true, .int .u64 a1] 27 (0, 0)) (by (with_reducible repeat (first | refine blk_drewN ?_ _ | refine blk_drew ?_ | refine blk_alloc ?_ _)); refine blk_put (cs := #[.int .u64 0, .bool true, .int .u64 0]) ?_ 2 _ rfl; (with_reducible repeat (first | refine blk_drewN ?_ _ | refine blk_drew ?_ | refine blk_alloc ?_ _)); refine blk_put (cs := #[.int .u64 0, .bool false, .int .u64 0]) ?_ 1 _ rfl; (with_reducible repeat (first | refine blk_drewN ?_ _ | refine blk_drew ?_ | refine blk_alloc ?_ _)); refine blk_put (cs := #[.int .u64 0, .bool false, .int .u64 0]) ?_ 0 _ rfl; (with_reducible repeat (first | refine blk_drewN ?_ _ | refine blk_drew ?_ | refine blk_alloc ?_ _)); exact BK193.out) hb); have n3_ := Aside0.mk (below_step (by repeat (first | (with_reducible first | exact HB.out | apply below_alloc | apply pw_below_drewN | apply below_drew1 | refine below_set ?_ GE190.out | refine below_set ?_ GE191.out | refine below_set ?_ GE193.out) | exact HB.out)) hb); clear BK190; clear BK191; clear BK193; clear HB; have BK190 := n0_; have BK191 := n1_; have BK193 := n2_; have HB := n3_; clear n0_ n1_ n2_ n3_; (try clear hb); (try clear hb2); (try clear hk); (try clear hi)))
        go_ret
        exact ⟨by first | rfl | (simp [errW_none, errW_some] <;> rfl) | (simp [*, errW_none, errW_some] <;> rfl), by repeat (first | (with_reducible first | exact HB.out | apply below_alloc | apply pw_below_drewN | apply below_drew1 | refine below_set ?_ GE190.out | refine below_set ?_ GE191.out | refine below_set ?_ GE193.out) | exact HB.out)⟩
  · replace c5 := Bool.eq_false_iff.mpr c5
    subst c5
    have H1 : (some false) = some r := by rw [if_neg (show ¬ (false = true) by decide)] at H; exact H
    clear H
    have H := H1
    clear H1
    obtain rfl := Option.some.inj H
    go_enter Try.func4, Try.ntmps4
    go_wp2_with (first | ((with_reducible refine gate_dst (N := 3) rfl ?_); refine box_event ?hg (N := 3) ?hd (cs := #[.int .u64 a0_0, .slice A0_1 l0_1.length c0_1]) (t := 25) ?hr ?_; (case hd => rfl); (case hg => rfl); (case hr => first | (go_simp; done) | (go_simp; rfl)); intro gb190 hg w146 hbox hb; have n0_ := Aside0.mk (below_step (by repeat (first | (with_reducible first | exact HB.out | apply below_alloc | apply pw_below_drewN | apply below_drew1) | exact HB.out)) hb); have n1_ := Aside0.mk (hbox); have n2_ := Aside0.mk ((by rw [hg]; exact (below_size (by repeat (first | (with_reducible first | exact HB.out | apply below_alloc | apply pw_below_drewN | apply below_drew1) | exact HB.out))) : w.heap.size ≤ gb190)); have n3_ := Aside0.mk ((by rw [hg]; exact (below_size (by repeat (first | (with_reducible first | exact HB.out | apply below_alloc | apply pw_below_drewN | apply below_drew1) | exact HB.out))) : w.heap.size ≤ gb190)); clear HB; have HB := n0_; have BK190 := n1_; have GW190 := n2_; have GE190 := n3_; clear n0_ n1_ n2_ n3_; clear hb hbox hg) | ((with_reducible refine gate_dst (N := 5) rfl ?_); refine box_event ?hg (N := 5) ?hd (cs := #[.int .u32 a2_0, .int .u64 a2_1, .int .u64 a2_2, .int .i64 a2_3, .int .i64 a2_4, .int .i64 a2_5, .int .i64 a2_6, .int .i64 a2_7]) (t := 32) ?hr ?_; (case hd => rfl); (case hg => rfl); (case hr => first | (go_simp; done) | (go_simp; rfl)); intro gb191 hg w147 hbox hb; have n0_ := Aside0.mk (blk_below (g := gb190) (o := .cells #[.int .u64 a0_0, .slice A0_1 l0_1.length c0_1] 25 (0, 0)) (by (with_reducible repeat (first | refine blk_drewN ?_ _ | refine blk_drew ?_ | refine blk_alloc ?_ _)); exact BK190.out) hb); have n1_ := Aside0.mk (below_step (by repeat (first | (with_reducible first | exact HB.out | apply below_alloc | apply pw_below_drewN | apply below_drew1 | refine below_set ?_ GE190.out) | exact HB.out)) hb); have n2_ := Aside0.mk (hbox); have n3_ := Aside0.mk ((by rw [hg]; exact (below_size (by repeat (first | (with_reducible first | exact HB.out | apply below_alloc | apply pw_below_drewN | apply below_drew1 | refine below_set ?_ GE190.out) | exact HB.out))) : w.heap.size ≤ gb191)); have n4_ := Aside0.mk ((by rw [hg]; exact (below_size (by repeat (first | (with_reducible first | exact HB.out | apply below_alloc | apply pw_below_drewN | apply below_drew1 | refine below_set ?_ GE190.out) | exact HB.out))) : w.heap.size ≤ gb191)); have n5_ := Aside0.mk ((by rw [hg]; exact Nat.ne_of_lt (blk_lt (g := gb190) (o := .cells #[.int .u64 a0_0, .slice A0_1 l0_1.length c0_1] 25 (0, 0)) (by (with_reducible repeat (first | refine blk_drewN ?_ _ | refine blk_drew ?_ | refine blk_alloc ?_ _)); exact BK190.out)) : gb190 ≠ gb191)); have n6_ := Aside0.mk ((by rw [hg]; exact Nat.ne_of_gt (blk_lt (g := gb190) (o := .cells #[.int .u64 a0_0, .slice A0_1 l0_1.length c0_1] 25 (0, 0)) (by (with_reducible repeat (first | refine blk_drewN ?_ _ | refine blk_drew ?_ | refine blk_alloc ?_ _)); exact BK190.out)) : gb191 ≠ gb190)); clear BK190; clear HB; have BK190 := n0_; have HB := n1_; have BK191 := n2_; have GW191 := n3_; have GE191 := n4_; have NB190_191 := n5_; have NB191_190 := n6_; clear n0_ n1_ n2_ n3_ n4_ n5_ n6_; clear hb hbox hg) | ((with_reducible refine gate_callee (f := 9) rfl ?_); refine goesL_ (some 17) rfl rfl Try.func9 (by kernel_rfl) rfl #[] rfl (by (try simp only [List.map_toArray, List.map_cons, List.map_nil]); first | done | rfl | (simp only [List.length_drop, List.length_take]; rfl)) ?_; (with_reducible refine (gazetteerlaw17_wakes.calls  false _ A4.out).mono ?_); rintro e w148 ⟨rfl, hb⟩; refine ⟨_, rfl, ?_⟩; have n0_ := Aside0.mk (blk_below (g := gb190) (o := .cells #[.int .u64 a0_0, .slice A0_1 l0_1.length c0_1] 25 (0, 0)) (by (with_reducible repeat (first | refine blk_drewN ?_ _ | refine blk_drew ?_ | refine blk_alloc ?_ _)); exact BK190.out) hb); have n1_ := Aside0.mk (blk_below (g := gb191) (o := .cells #[.int .u32 a2_0, .int .u64 a2_1, .int .u64 a2_2, .int .i64 a2_3, .int .i64 a2_4, .int .i64 a2_5, .int .i64 a2_6, .int .i64 a2_7] 32 (0, 0)) (by (with_reducible repeat (first | refine blk_drewN ?_ _ | refine blk_drew ?_ | refine blk_alloc ?_ _)); exact BK191.out) hb); have n2_ := Aside0.mk (below_step (by repeat (first | (with_reducible first | exact HB.out | apply below_alloc | apply pw_below_drewN | apply below_drew1 | refine below_set ?_ GE190.out | refine below_set ?_ GE191.out) | exact HB.out)) hb); clear BK190; clear BK191; clear HB; have BK190 := n0_; have BK191 := n1_; have HB := n2_; clear n0_ n1_ n2_; (try clear hb); (try clear hb2); (try clear hk); (try clear hi)))
    go_ret
    exact ⟨by first | rfl | (simp [errW_none, errW_some] <;> rfl) | (simp [*, errW_none, errW_some] <;> rfl), by repeat (first | (with_reducible first | exact HB.out | apply below_alloc | apply pw_below_drewN | apply below_drew1 | refine below_set ?_ GE190.out | refine below_set ?_ GE191.out) | exact HB.out)⟩

end Go.Proofs.Ytfggjefncnhikaa.A
