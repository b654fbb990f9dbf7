/- What the row of this claim reaches. No condition. -/
import Derived.Test.YtiamkgoajkfofaaDoorZX0
set_option linter.unusedVariables false
set_option linter.unusedSimpArgs false
section
namespace Go.Proofs.YtiamkgoajkfofaaDoor.S
open Go.RowKit Go.Proofs.YtiamkgoajkfofaaDoorW.PrintWords Go.Proofs.YtiamkgoajkfofaaDoorW.PrintLast Go.Proofs.YtiamkgoajkfofaaDoorW.PrintMore
attribute [local go_sem] max2_int min2_int max_two min_two max_three min_three max_four min_four   -- for this text's walks alone
attribute [local go_sem high] eqA27
def gazetteerlaw21_large.f (a0_0 : Int) (a0_1 : Int) (a0_2 : Bool) (a0_3 : Int) (a0_4 : Int) (a0_5 : Bool) (a0_6 : Int) (a0_7 : Int) (a0_8 : Int) (a0_9 : Int) (a0_10 : Int) (a0_11 : Int) (a0_12 : Int) (a0_13 : Int) (a0_14 : Int) (a0_15 : Int) (a0_16 : Int) (l0_17 : List (S63)) (l0_18 : List Int) (l0_19 : List Int) : Option (Bool) := if (l0_17.length : Int) > 300 then (some true) else (if (l0_18.length : Int) > 300 then (some true) else (some (decide ((l0_19.length : Int) > 300))))
set_option maxHeartbeats 8000000 in
set_option maxRecDepth 100000 in
theorem gazetteerlaw21_large.calls (a0_0 : Int) (a0_1 : Int) (a0_2 : Bool) (a0_3 : Int) (a0_4 : Int) (a0_5 : Bool) (a0_6 : Int) (a0_7 : Int) (a0_8 : Int) (a0_9 : Int) (a0_10 : Int) (a0_11 : Int) (a0_12 : Int) (a0_13 : Int) (a0_14 : Int) (a0_15 : Int) (a0_16 : Int) (A0_17 : Option Addr) (c0_17 : Nat) (l0_17 : List (S63)) (A0_18 : Option Addr) (c0_18 : Nat) (l0_18 : List Int) (A0_19 : Option Addr) (c0_19 : Nat) (l0_19 : List Int) (r : Bool) (w : World) (hr0_17 : Kd.C k63 w A0_17 l0_17.length l0_17) (hc0_17 : l0_17.length ≤ c0_17) (hr0_18 : Kd.C (Kd.int .u32) w A0_18 l0_18.length l0_18) (hc0_18 : l0_18.length ≤ c0_18) (hr0_19 : Kd.C (Kd.int .u32) w A0_19 l0_19.length l0_19) (hc0_19 : l0_19.length ≤ c0_19) (h : gazetteerlaw21_large.f a0_0 a0_1 a0_2 a0_3 a0_4 a0_5 a0_6 a0_7 a0_8 a0_9 a0_10 a0_11 a0_12 a0_13 a0_14 a0_15 a0_16 l0_17 l0_18 l0_19 = some r) :
    Calls Tryd.prog 9 #[.agg #[.int .i64 a0_0, .int .u64 a0_1, .bool a0_2, .int .u64 a0_3, .int .i64 a0_4, .bool a0_5, .int .u32 a0_6, .int .i64 a0_7, .int .i64 a0_8, .int .i64 a0_9, .int .i64 a0_10, .int .i64 a0_11, .int .i64 a0_12, .int .i64 a0_13, .int .i64 a0_14, .int .i64 a0_15, .int .i64 a0_16, .slice A0_17 l0_17.length c0_17, .slice A0_18 l0_18.length c0_18, .slice A0_19 l0_19.length c0_19]] w fun e w' => e = .returned (.bool r) ∧ Below w.heap.size w w' := by
  have hu33 := Tryd.underlying33
  have HR0_17 := Aside0.mk hr0_17
  have HC0_17 := Aside0.mk hc0_17
  clear hr0_17 hc0_17
  have HR0_18 := Aside0.mk hr0_18
  have HC0_18 := Aside0.mk hc0_18
  clear hr0_18 hc0_18
  have HR0_19 := Aside0.mk hr0_19
  have HC0_19 := Aside0.mk hc0_19
  clear hr0_19 hc0_19
  have HB := Aside0.mk (Below.refl w.heap.size w)
  have H : (if (l0_17.length : Int) > 300 then (some true) else (if (l0_18.length : Int) > 300 then (some true) else (some (decide ((l0_19.length : Int) > 300))))) = some r := h
  clear h
  by_cases c2 : (l0_17.length : Int) > 300
  · rw [if_pos c2] at H
    have c2b0 : decide (300 < (l0_17.length : Int)) = true := decide_eq_true c2
    have c2b1 : decide (300 < l0_17.length) = true := decide_eq_true (by omega)
    clear c2
    obtain rfl := Option.some.inj H
    go_enter Tryd.func9, Tryd.ntmps9
    go_wp2_with (first | ((with_reducible refine gate_dst (N := 1) rfl ?_); (try (refine gate_guard (by rfl) ?_; dsimp only)); refine box_event ?hg (N := 1) ?hd (cs := #[.int .i64 a0_0, .int .u64 a0_1, .bool a0_2, .int .u64 a0_3, .int .i64 a0_4, .bool a0_5, .int .u32 a0_6, .int .i64 a0_7, .int .i64 a0_8, .int .i64 a0_9, .int .i64 a0_10, .int .i64 a0_11, .int .i64 a0_12, .int .i64 a0_13, .int .i64 a0_14, .int .i64 a0_15, .int .i64 a0_16, .slice A0_17 l0_17.length c0_17, .slice A0_18 l0_18.length c0_18, .slice A0_19 l0_19.length c0_19]) (t := 33) ?hr ?_; (case hd => rfl); (case hg => rfl); (case hr => first | (go_simp; done) | (go_simp; rfl)); intro gb129 hg w3 hbox hb; have n0_ := Aside0.mk (below_step (by repeat (first | (with_reducible first | exact HB.out | apply below_alloc | apply pw_below_drewN | apply below_drew1) | exact HB.out)) hb); have n1_ := Aside0.mk (hbox); have n2_ := Aside0.mk ((by rw [hg]; exact (below_size (by repeat (first | (with_reducible first | exact HB.out | apply below_alloc | apply pw_below_drewN | apply below_drew1) | exact HB.out))) : w.heap.size ≤ gb129)); have n3_ := Aside0.mk ((by rw [hg]; exact (below_size (by repeat (first | (with_reducible first | exact HB.out | apply below_alloc | apply pw_below_drewN | apply below_drew1) | exact HB.out))) : w.heap.size ≤ gb129)); clear HB; have HB := n0_; have BK129 := n1_; have GW129 := n2_; have GE129 := n3_; clear n0_ n1_ n2_ n3_; clear hb hbox hg; have hcz4_0 : w3.cell? ⟨gb129, 0, none⟩ = some (.int .i64 a0_0) := (blk_cell BK129.out 0).trans rfl; have hcz4_1 : w3.cell? ⟨gb129, 1, none⟩ = some (.int .u64 a0_1) := (blk_cell BK129.out 1).trans rfl; have hcz4_2 : w3.cell? ⟨gb129, 2, none⟩ = some (.bool a0_2) := (blk_cell BK129.out 2).trans rfl; have hcz4_3 : w3.cell? ⟨gb129, 3, none⟩ = some (.int .u64 a0_3) := (blk_cell BK129.out 3).trans rfl; have hcz4_4 : w3.cell? ⟨gb129, 4, none⟩ = some (.int .i64 a0_4) := (blk_cell BK129.out 4).trans rfl; have hcz4_5 : w3.cell? ⟨gb129, 5, none⟩ = some (.bool a0_5) := (blk_cell BK129.out 5).trans rfl; have hcz4_6 : w3.cell? ⟨gb129, 6, none⟩ = some (.int .u32 a0_6) := (blk_cell BK129.out 6).trans rfl; have hcz4_7 : w3.cell? ⟨gb129, 7, none⟩ = some (.int .i64 a0_7) := (blk_cell BK129.out 7).trans rfl; have hcz4_8 : w3.cell? ⟨gb129, 8, none⟩ = some (.int .i64 a0_8) := (blk_cell BK129.out 8).trans rfl; have hcz4_9 : w3.cell? ⟨gb129, 9, none⟩ = some (.int .i64 a0_9) := (blk_cell BK129.out 9).trans rfl; have hcz4_10 : w3.cell? ⟨gb129, 10, none⟩ = some (.int .i64 a0_10) := (blk_cell BK129.out 10).trans rfl; have hcz4_11 : w3.cell? ⟨gb129, 11, none⟩ = some (.int .i64 a0_11) := (blk_cell BK129.out 11).trans rfl; have hcz4_12 : w3.cell? ⟨gb129, 12, none⟩ = some (.int .i64 a0_12) := (blk_cell BK129.out 12).trans rfl; have hcz4_13 : w3.cell? ⟨gb129, 13, none⟩ = some (.int .i64 a0_13) := (blk_cell BK129.out 13).trans rfl; have hcz4_14 : w3.cell? ⟨gb129, 14, none⟩ = some (.int .i64 a0_14) := (blk_cell BK129.out 14).trans rfl; have hcz4_15 : w3.cell? ⟨gb129, 15, none⟩ = some (.int .i64 a0_15) := (blk_cell BK129.out 15).trans rfl; have hcz4_16 : w3.cell? ⟨gb129, 16, none⟩ = some (.int .i64 a0_16) := (blk_cell BK129.out 16).trans rfl; have hcz4_17 : w3.cell? ⟨gb129, 17, none⟩ = some (.slice A0_17 l0_17.length c0_17) := (blk_cell BK129.out 17).trans rfl; have hcz4_18 : w3.cell? ⟨gb129, 18, none⟩ = some (.slice A0_18 l0_18.length c0_18) := (blk_cell BK129.out 18).trans rfl; have hcz4_19 : w3.cell? ⟨gb129, 19, none⟩ = some (.slice A0_19 l0_19.length c0_19) := (blk_cell BK129.out 19).trans rfl; have hfz4_0 := blk_frozen BK129.out 0; have hfz4_1 := blk_frozen BK129.out 1; have hfz4_2 := blk_frozen BK129.out 2; have hfz4_3 := blk_frozen BK129.out 3; have hfz4_4 := blk_frozen BK129.out 4; have hfz4_5 := blk_frozen BK129.out 5; have hfz4_6 := blk_frozen BK129.out 6; have hfz4_7 := blk_frozen BK129.out 7; have hfz4_8 := blk_frozen BK129.out 8; have hfz4_9 := blk_frozen BK129.out 9; have hfz4_10 := blk_frozen BK129.out 10; have hfz4_11 := blk_frozen BK129.out 11; have hfz4_12 := blk_frozen BK129.out 12; have hfz4_13 := blk_frozen BK129.out 13; have hfz4_14 := blk_frozen BK129.out 14; have hfz4_15 := blk_frozen BK129.out 15; have hfz4_16 := blk_frozen BK129.out 16; have hfz4_17 := blk_frozen BK129.out 17; have hfz4_18 := blk_frozen BK129.out 18; have hfz4_19 := blk_frozen BK129.out 19))
    go_ret
    exact ⟨by first | rfl | (simp [errW_none, errW_some] <;> rfl) | (simp [*, errW_none, errW_some] <;> rfl), by repeat (first | (with_reducible first | exact HB.out | apply below_alloc | apply pw_below_drewN | apply below_drew1 | refine below_set ?_ GE129.out) | exact HB.out)⟩
  · rw [if_neg c2] at H
    have c2b0 : decide (300 < (l0_17.length : Int)) = false := decide_eq_false c2
    have c2b1 : decide (300 < l0_17.length) = false := decide_eq_false (by omega)
    clear c2
    by_cases c5 : (l0_18.length : Int) > 300
    · rw [if_pos c5] at H
      have c5b0 : decide (300 < (l0_18.length : Int)) = true := decide_eq_true c5
      have c5b1 : decide (300 < l0_18.length) = true := decide_eq_true (by omega)
      clear c5
      obtain rfl := Option.some.inj H
      go_enter Tryd.func9, Tryd.ntmps9
      go_wp2_with (first | ((with_reducible refine gate_dst (N := 1) rfl ?_); (try (refine gate_guard (by rfl) ?_; dsimp only)); refine box_event ?hg (N := 1) ?hd (cs := #[.int .i64 a0_0, .int .u64 a0_1, .bool a0_2, .int .u64 a0_3, .int .i64 a0_4, .bool a0_5, .int .u32 a0_6, .int .i64 a0_7, .int .i64 a0_8, .int .i64 a0_9, .int .i64 a0_10, .int .i64 a0_11, .int .i64 a0_12, .int .i64 a0_13, .int .i64 a0_14, .int .i64 a0_15, .int .i64 a0_16, .slice A0_17 l0_17.length c0_17, .slice A0_18 l0_18.length c0_18, .slice A0_19 l0_19.length c0_19]) (t := 33) ?hr ?_; (case hd => rfl); (case hg => rfl); (case hr => first | (go_simp; done) | (go_simp; rfl)); intro gb129 hg w6 hbox hb; have n0_ := Aside0.mk (below_step (by repeat (first | (with_reducible first | exact HB.out | apply below_alloc | apply pw_below_drewN | apply below_drew1) | exact HB.out)) hb); have n1_ := Aside0.mk (hbox); have n2_ := Aside0.mk ((by rw [hg]; exact (below_size (by repeat (first | (with_reducible first | exact HB.out | apply below_alloc | apply pw_below_drewN | apply below_drew1) | exact HB.out))) : w.heap.size ≤ gb129)); have n3_ := Aside0.mk ((by rw [hg]; exact (below_size (by repeat (first | (with_reducible first | exact HB.out | apply below_alloc | apply pw_below_drewN | apply below_drew1) | exact HB.out))) : w.heap.size ≤ gb129)); clear HB; have HB := n0_; have BK129 := n1_; have GW129 := n2_; have GE129 := n3_; clear n0_ n1_ n2_ n3_; clear hb hbox hg; have hcz7_0 : w6.cell? ⟨gb129, 0, none⟩ = some (.int .i64 a0_0) := (blk_cell BK129.out 0).trans rfl; have hcz7_1 : w6.cell? ⟨gb129, 1, none⟩ = some (.int .u64 a0_1) := (blk_cell BK129.out 1).trans rfl; have hcz7_2 : w6.cell? ⟨gb129, 2, none⟩ = some (.bool a0_2) := (blk_cell BK129.out 2).trans rfl; have hcz7_3 : w6.cell? ⟨gb129, 3, none⟩ = some (.int .u64 a0_3) := (blk_cell BK129.out 3).trans rfl; have hcz7_4 : w6.cell? ⟨gb129, 4, none⟩ = some (.int .i64 a0_4) := (blk_cell BK129.out 4).trans rfl; have hcz7_5 : w6.cell? ⟨gb129, 5, none⟩ = some (.bool a0_5) := (blk_cell BK129.out 5).trans rfl; have hcz7_6 : w6.cell? ⟨gb129, 6, none⟩ = some (.int .u32 a0_6) := (blk_cell BK129.out 6).trans rfl; have hcz7_7 : w6.cell? ⟨gb129, 7, none⟩ = some (.int .i64 a0_7) := (blk_cell BK129.out 7).trans rfl; have hcz7_8 : w6.cell? ⟨gb129, 8, none⟩ = some (.int .i64 a0_8) := (blk_cell BK129.out 8).trans rfl; have hcz7_9 : w6.cell? ⟨gb129, 9, none⟩ = some (.int .i64 a0_9) := (blk_cell BK129.out 9).trans rfl; have hcz7_10 : w6.cell? ⟨gb129, 10, none⟩ = some (.int .i64 a0_10) := (blk_cell BK129.out 10).trans rfl; have hcz7_11 : w6.cell? ⟨gb129, 11, none⟩ = some (.int .i64 a0_11) := (blk_cell BK129.out 11).trans rfl; have hcz7_12 : w6.cell? ⟨gb129, 12, none⟩ = some (.int .i64 a0_12) := (blk_cell BK129.out 12).trans rfl; have hcz7_13 : w6.cell? ⟨gb129, 13, none⟩ = some (.int .i64 a0_13) := (blk_cell BK129.out 13).trans rfl; have hcz7_14 : w6.cell? ⟨gb129, 14, none⟩ = some (.int .i64 a0_14) := (blk_cell BK129.out 14).trans rfl; have hcz7_15 : w6.cell? ⟨gb129, 15, none⟩ = some (.int .i64 a0_15) := (blk_cell BK129.out 15).trans rfl; have hcz7_16 : w6.cell? ⟨gb129, 16, none⟩ = some (.int .i64 a0_16) := (blk_cell BK129.out 16).trans rfl; have hcz7_17 : w6.cell? ⟨gb129, 17, none⟩ = some (.slice A0_17 l0_17.length c0_17) := (blk_cell BK129.out 17).trans rfl; have hcz7_18 : w6.cell? ⟨gb129, 18, none⟩ = some (.slice A0_18 l0_18.length c0_18) := (blk_cell BK129.out 18).trans rfl; have hcz7_19 : w6.cell? ⟨gb129, 19, none⟩ = some (.slice A0_19 l0_19.length c0_19) := (blk_cell BK129.out 19).trans rfl; have hfz7_0 := blk_frozen BK129.out 0; have hfz7_1 := blk_frozen BK129.out 1; have hfz7_2 := blk_frozen BK129.out 2; have hfz7_3 := blk_frozen BK129.out 3; have hfz7_4 := blk_frozen BK129.out 4; have hfz7_5 := blk_frozen BK129.out 5; have hfz7_6 := blk_frozen BK129.out 6; have hfz7_7 := blk_frozen BK129.out 7; have hfz7_8 := blk_frozen BK129.out 8; have hfz7_9 := blk_frozen BK129.out 9; have hfz7_10 := blk_frozen BK129.out 10; have hfz7_11 := blk_frozen BK129.out 11; have hfz7_12 := blk_frozen BK129.out 12; have hfz7_13 := blk_frozen BK129.out 13; have hfz7_14 := blk_frozen BK129.out 14; have hfz7_15 := blk_frozen BK129.out 15; have hfz7_16 := blk_frozen BK129.out 16; have hfz7_17 := blk_frozen BK129.out 17; have hfz7_18 := blk_frozen BK129.out 18; have hfz7_19 := blk_frozen BK129.out 19))
      go_ret
      exact ⟨by first | rfl | (simp [errW_none, errW_some] <;> rfl) | (simp [*, errW_none, errW_some] <;> rfl), by repeat (first | (with_reducible first | exact HB.out | apply below_alloc | apply pw_below_drewN | apply below_drew1 | refine below_set ?_ GE129.out) | exact HB.out)⟩
    · rw [if_neg c5] at H
      have c5b0 : decide (300 < (l0_18.length : Int)) = false := decide_eq_false c5
      have c5b1 : decide (300 < l0_18.length) = false := decide_eq_false (by omega)
      clear c5
      obtain rfl := Option.some.inj H
      go_enter Tryd.func9, Tryd.ntmps9
      go_wp2_with (first | ((with_reducible refine gate_dst (N := 1) rfl ?_); (try (refine gate_guard (by rfl) ?_; dsimp only)); refine box_event ?hg (N := 1) ?hd (cs := #[.int .i64 a0_0, .int .u64 a0_1, .bool a0_2, .int .u64 a0_3, .int .i64 a0_4, .bool a0_5, .int .u32 a0_6, .int .i64 a0_7, .int .i64 a0_8, .int .i64 a0_9, .int .i64 a0_10, .int .i64 a0_11, .int .i64 a0_12, .int .i64 a0_13, .int .i64 a0_14, .int .i64 a0_15, .int .i64 a0_16, .slice A0_17 l0_17.length c0_17, .slice A0_18 l0_18.length c0_18, .slice A0_19 l0_19.length c0_19]) (t := 33) ?hr ?_; (case hd => rfl); (case hg => rfl); (case hr => first | (go_simp; done) | (go_simp; rfl)); intro gb129 hg w8 hbox hb; have n0_ := Aside0.mk (below_step (by repeat (first | (with_reducible first | exact HB.out | apply below_alloc | apply pw_below_drewN | apply below_drew1) | exact HB.out)) hb); have n1_ := Aside0.mk (hbox); have n2_ := Aside0.mk ((by rw [hg]; exact (below_size (by repeat (first | (with_reducible first | exact HB.out | apply below_alloc | apply pw_below_drewN | apply below_drew1) | exact HB.out))) : w.heap.size ≤ gb129)); have n3_ := Aside0.mk ((by rw [hg]; exact (below_size (by repeat (first | (with_reducible first | exact HB.out | apply below_alloc | apply pw_below_drewN | apply below_drew1) | exact HB.out))) : w.heap.size ≤ gb129)); clear HB; have HB := n0_; have BK129 := n1_; have GW129 := n2_; have GE129 := n3_; clear n0_ n1_ n2_ n3_; clear hb hbox hg; have hcz9_0 : w8.cell? ⟨gb129, 0, none⟩ = some (.int .i64 a0_0) := (blk_cell BK129.out 0).trans rfl; have hcz9_1 : w8.cell? ⟨gb129, 1, none⟩ = some (.int .u64 a0_1) := (blk_cell BK129.out 1).trans rfl; have hcz9_2 : w8.cell? ⟨gb129, 2, none⟩ = some (.bool a0_2) := (blk_cell BK129.out 2).trans rfl; have hcz9_3 : w8.cell? ⟨gb129, 3, none⟩ = some (.int .u64 a0_3) := (blk_cell BK129.out 3).trans rfl; have hcz9_4 : w8.cell? ⟨gb129, 4, none⟩ = some (.int .i64 a0_4) := (blk_cell BK129.out 4).trans rfl; have hcz9_5 : w8.cell? ⟨gb129, 5, none⟩ = some (.bool a0_5) := (blk_cell BK129.out 5).trans rfl; have hcz9_6 : w8.cell? ⟨gb129, 6, none⟩ = some (.int .u32 a0_6) := (blk_cell BK129.out 6).trans rfl; have hcz9_7 : w8.cell? ⟨gb129, 7, none⟩ = some (.int .i64 a0_7) := (blk_cell BK129.out 7).trans rfl; have hcz9_8 : w8.cell? ⟨gb129, 8, none⟩ = some (.int .i64 a0_8) := (blk_cell BK129.out 8).trans rfl; have hcz9_9 : w8.cell? ⟨gb129, 9, none⟩ = some (.int .i64 a0_9) := (blk_cell BK129.out 9).trans rfl; have hcz9_10 : w8.cell? ⟨gb129, 10, none⟩ = some (.int .i64 a0_10) := (blk_cell BK129.out 10).trans rfl; have hcz9_11 : w8.cell? ⟨gb129, 11, none⟩ = some (.int .i64 a0_11) := (blk_cell BK129.out 11).trans rfl; have hcz9_12 : w8.cell? ⟨gb129, 12, none⟩ = some (.int .i64 a0_12) := (blk_cell BK129.out 12).trans rfl; have hcz9_13 : w8.cell? ⟨gb129, 13, none⟩ = some (.int .i64 a0_13) := (blk_cell BK129.out 13).trans rfl; have hcz9_14 : w8.cell? ⟨gb129, 14, none⟩ = some (.int .i64 a0_14) := (blk_cell BK129.out 14).trans rfl; have hcz9_15 : w8.cell? ⟨gb129, 15, none⟩ = some (.int .i64 a0_15) := (blk_cell BK129.out 15).trans rfl; have hcz9_16 : w8.cell? ⟨gb129, 16, none⟩ = some (.int .i64 a0_16) := (blk_cell BK129.out 16).trans rfl; have hcz9_17 : w8.cell? ⟨gb129, 17, none⟩ = some (.slice A0_17 l0_17.length c0_17) := (blk_cell BK129.out 17).trans rfl; have hcz9_18 : w8.cell? ⟨gb129, 18, none⟩ = some (.slice A0_18 l0_18.length c0_18) := (blk_cell BK129.out 18).trans rfl; have hcz9_19 : w8.cell? ⟨gb129, 19, none⟩ = some (.slice A0_19 l0_19.length c0_19) := (blk_cell BK129.out 19).trans rfl; have hfz9_0 := blk_frozen BK129.out 0; have hfz9_1 := blk_frozen BK129.out 1; have hfz9_2 := blk_frozen BK129.out 2; have hfz9_3 := blk_frozen BK129.out 3; have hfz9_4 := blk_frozen BK129.out 4; have hfz9_5 := blk_frozen BK129.out 5; have hfz9_6 := blk_frozen BK129.out 6; have hfz9_7 := blk_frozen BK129.out 7; have hfz9_8 := blk_frozen BK129.out 8; have hfz9_9 := blk_frozen BK129.out 9; have hfz9_10 := blk_frozen BK129.out 10; have hfz9_11 := blk_frozen BK129.out 11; have hfz9_12 := blk_frozen BK129.out 12; have hfz9_13 := blk_frozen BK129.out 13; have hfz9_14 := blk_frozen BK129.out 14; have hfz9_15 := blk_frozen BK129.out 15; have hfz9_16 := blk_frozen BK129.out 16; have hfz9_17 := blk_frozen BK129.out 17; have hfz9_18 := blk_frozen BK129.out 18; have hfz9_19 := blk_frozen BK129.out 19))
      go_ret
      exact ⟨by first | rfl | (simp [errW_none, errW_some] <;> rfl) | (simp [*, errW_none, errW_some] <;> rfl), by repeat (first | (with_reducible first | exact HB.out | apply below_alloc | apply pw_below_drewN | apply below_drew1 | refine below_set ?_ GE129.out) | exact HB.out)⟩
def session_Same.f (k : Nat) (a0_0 : Int) (a0_1 : Int) (a0_2 : Bool) (a0_3 : Int) (a0_4 : Int) (a0_5 : Bool) (a0_6 : Int) (a0_7 : Int) (a0_8 : Int) (a0_9 : Int) (a0_10 : Int) (a0_11 : Int) (a0_12 : Int) (a0_13 : Int) (a0_14 : Int) (a0_15 : Int) (a0_16 : Int) (l0_17 : List (S63)) (l0_18 : List Int) (l0_19 : List Int) (a1_0 : Int) (a1_1 : Int) (a1_2 : Bool) (a1_3 : Int) (a1_4 : Int) (a1_5 : Bool) (a1_6 : Int) (a1_7 : Int) (a1_8 : Int) (a1_9 : Int) (a1_10 : Int) (a1_11 : Int) (a1_12 : Int) (a1_13 : Int) (a1_14 : Int) (a1_15 : Int) (a1_16 : Int) (l1_17 : List (S63)) (l1_18 : List Int) (l1_19 : List Int) : Option (Bool) := if a0_0 = a1_0 then (if a0_1 = a1_1 then (if (a0_2 == a1_2) = true then (if a0_3 = a1_3 then (if (a0_4 == a1_4 && (a0_5 == a1_5 && (a0_6 == a1_6 && ((a0_7 == a1_7 && (a0_8 == a1_8 && (a0_9 == a1_9 && (a0_10 == a1_10)))) && (a0_11 == a1_11))))) = true then (if a0_12 = a1_12 then ((cursor_Same.f k a0_13 a0_14 a0_15 a0_16 l0_17 l0_18 a1_13 a1_14 a1_15 a1_16 l1_17 l1_18).bind fun t132 => (if t132 = true then ((slices_Equal_uint32_uint32.f k l0_19 l1_19).bind fun t133 => (some t133)) else (some false))) else (some false)) else (some false)) else (some false)) else (some false)) else (some false)) else (some false)
set_option maxHeartbeats 8000000 in
set_option maxRecDepth 100000 in
theorem session_Same.calls (k : Nat) (a0_0 : Int) (a0_1 : Int) (a0_2 : Bool) (a0_3 : Int) (a0_4 : Int) (a0_5 : Bool) (a0_6 : Int) (a0_7 : Int) (a0_8 : Int) (a0_9 : Int) (a0_10 : Int) (a0_11 : Int) (a0_12 : Int) (a0_13 : Int) (a0_14 : Int) (a0_15 : Int) (a0_16 : Int) (A0_17 : Option Addr) (c0_17 : Nat) (l0_17 : List (S63)) (A0_18 : Option Addr) (c0_18 : Nat) (l0_18 : List Int) (A0_19 : Option Addr) (c0_19 : Nat) (l0_19 : List Int) (a1_0 : Int) (a1_1 : Int) (a1_2 : Bool) (a1_3 : Int) (a1_4 : Int) (a1_5 : Bool) (a1_6 : Int) (a1_7 : Int) (a1_8 : Int) (a1_9 : Int) (a1_10 : Int) (a1_11 : Int) (a1_12 : Int) (a1_13 : Int) (a1_14 : Int) (a1_15 : Int) (a1_16 : Int) (A1_17 : Option Addr) (c1_17 : Nat) (l1_17 : List (S63)) (A1_18 : Option Addr) (c1_18 : Nat) (l1_18 : List Int) (A1_19 : Option Addr) (c1_19 : Nat) (l1_19 : List Int) (r : Bool) (w : World) (hr0_17 : Kd.C k63 w A0_17 l0_17.length l0_17) (hc0_17 : l0_17.length ≤ c0_17) (hr0_18 : Kd.C (Kd.int .u32) w A0_18 l0_18.length l0_18) (hc0_18 : l0_18.length ≤ c0_18) (hr0_19 : Kd.C (Kd.int .u32) w A0_19 l0_19.length l0_19) (hc0_19 : l0_19.length ≤ c0_19) (hr1_17 : Kd.C k63 w A1_17 l1_17.length l1_17) (hc1_17 : l1_17.length ≤ c1_17) (hr1_18 : Kd.C (Kd.int .u32) w A1_18 l1_18.length l1_18) (hc1_18 : l1_18.length ≤ c1_18) (hr1_19 : Kd.C (Kd.int .u32) w A1_19 l1_19.length l1_19) (hc1_19 : l1_19.length ≤ c1_19) (h : session_Same.f k a0_0 a0_1 a0_2 a0_3 a0_4 a0_5 a0_6 a0_7 a0_8 a0_9 a0_10 a0_11 a0_12 a0_13 a0_14 a0_15 a0_16 l0_17 l0_18 l0_19 a1_0 a1_1 a1_2 a1_3 a1_4 a1_5 a1_6 a1_7 a1_8 a1_9 a1_10 a1_11 a1_12 a1_13 a1_14 a1_15 a1_16 l1_17 l1_18 l1_19 = some r) :
    Calls Tryd.prog 11 #[.agg #[.int .i64 a0_0, .int .u64 a0_1, .bool a0_2, .int .u64 a0_3, .int .i64 a0_4, .bool a0_5, .int .u32 a0_6, .int .i64 a0_7, .int .i64 a0_8, .int .i64 a0_9, .int .i64 a0_10, .int .i64 a0_11, .int .i64 a0_12, .int .i64 a0_13, .int .i64 a0_14, .int .i64 a0_15, .int .i64 a0_16, .slice A0_17 l0_17.length c0_17, .slice A0_18 l0_18.length c0_18, .slice A0_19 l0_19.length c0_19], .agg #[.int .i64 a1_0, .int .u64 a1_1, .bool a1_2, .int .u64 a1_3, .int .i64 a1_4, .bool a1_5, .int .u32 a1_6, .int .i64 a1_7, .int .i64 a1_8, .int .i64 a1_9, .int .i64 a1_10, .int .i64 a1_11, .int .i64 a1_12, .int .i64 a1_13, .int .i64 a1_14, .int .i64 a1_15, .int .i64 a1_16, .slice A1_17 l1_17.length c1_17, .slice A1_18 l1_18.length c1_18, .slice A1_19 l1_19.length c1_19]] w fun e w' => e = .returned (.bool r) ∧ Below w.heap.size w w' := by
  have hu33 := Tryd.underlying33
  have hu27 := Tryd.underlying27
  have hu31 := Tryd.underlying31
  have HR0_17 := Aside0.mk hr0_17
  have HC0_17 := Aside0.mk hc0_17
  clear hr0_17 hc0_17
  have HR0_18 := Aside0.mk hr0_18
  have HC0_18 := Aside0.mk hc0_18
  clear hr0_18 hc0_18
  have HR0_19 := Aside0.mk hr0_19
  have HC0_19 := Aside0.mk hc0_19
  clear hr0_19 hc0_19
  have HR1_17 := Aside0.mk hr1_17
  have HC1_17 := Aside0.mk hc1_17
  clear hr1_17 hc1_17
  have HR1_18 := Aside0.mk hr1_18
  have HC1_18 := Aside0.mk hc1_18
  clear hr1_18 hc1_18
  have HR1_19 := Aside0.mk hr1_19
  have HC1_19 := Aside0.mk hc1_19
  clear hr1_19 hc1_19
  have HB := Aside0.mk (Below.refl w.heap.size w)
  have H : (if a0_0 = a1_0 then (if a0_1 = a1_1 then (if (a0_2 == a1_2) = true then (if a0_3 = a1_3 then (if (a0_4 == a1_4 && (a0_5 == a1_5 && (a0_6 == a1_6 && ((a0_7 == a1_7 && (a0_8 == a1_8 && (a0_9 == a1_9 && (a0_10 == a1_10)))) && (a0_11 == a1_11))))) = true then (if a0_12 = a1_12 then ((cursor_Same.f k a0_13 a0_14 a0_15 a0_16 l0_17 l0_18 a1_13 a1_14 a1_15 a1_16 l1_17 l1_18).bind fun t132 => (if t132 = true then ((slices_Equal_uint32_uint32.f k l0_19 l1_19).bind fun t133 => (some t133)) else (some false))) else (some false)) else (some false)) else (some false)) else (some false)) else (some false)) else (some false)) = some r := h
  clear h
  by_cases c3 : a0_0 = a1_0
  · rw [if_pos c3] at H
    have c3b0 : (a0_0 == a1_0) = true := beq_iff_eq.mpr c3
    have c3b1 : (a0_0 != a1_0) = false := bne_eq_false_iff_eq.mpr c3
    clear c3
    by_cases c4 : a0_1 = a1_1
    · rw [if_pos c4] at H
      have c4b0 : (a0_1 == a1_1) = true := beq_iff_eq.mpr c4
      have c4b1 : (a0_1 != a1_1) = false := bne_eq_false_iff_eq.mpr c4
      clear c4
      by_cases c5 : (a0_2 == a1_2) = true
      · rw [if_pos c5] at H
        have c5b0 : (a0_2 == a1_2) = true := c5
        (try (have c5b1 : decide (a0_2 = a1_2) = true := by simpa using c5))
        (try (have c5b2 : (a0_2 == a1_2) = true := by simpa using c5))
        clear c5
        by_cases c6 : a0_3 = a1_3
        · rw [if_pos c6] at H
          have c6b0 : (a0_3 == a1_3) = true := beq_iff_eq.mpr c6
          have c6b1 : (a0_3 != a1_3) = false := bne_eq_false_iff_eq.mpr c6
          clear c6
          by_cases c7 : (a0_4 == a1_4 && (a0_5 == a1_5 && (a0_6 == a1_6 && ((a0_7 == a1_7 && (a0_8 == a1_8 && (a0_9 == a1_9 && (a0_10 == a1_10)))) && (a0_11 == a1_11))))) = true
          · rw [if_pos c7] at H
            have c7b0 : (a0_4 == a1_4 && (a0_5 == a1_5 && (a0_6 == a1_6 && ((a0_7 == a1_7 && (a0_8 == a1_8 && (a0_9 == a1_9 && (a0_10 == a1_10)))) && (a0_11 == a1_11))))) = true := c7
            (try (have c7b1 : decide (a0_4 = a1_4 && (a0_5 == a1_5 && (a0_6 == a1_6 && ((a0_7 == a1_7 && (a0_8 == a1_8 && (a0_9 == a1_9 && (a0_10 == a1_10)))) && (a0_11 == a1_11))))) = true := by simpa using c7))
            (try (have c7b2 : (a0_4 == a1_4 && (a0_5 == a1_5 && (a0_6 == a1_6 && ((a0_7 == a1_7 && (a0_8 == a1_8 && (a0_9 == a1_9 && (a0_10 == a1_10)))) && (a0_11 == a1_11))))) = true := by simpa using c7))
            clear c7
            by_cases c8 : a0_12 = a1_12
            · rw [if_pos c8] at H
              have c8b0 : (a0_12 == a1_12) = true := beq_iff_eq.mpr c8
              have c8b1 : (a0_12 != a1_12) = false := bne_eq_false_iff_eq.mpr c8
              clear c8
              replace H := Option.bind_eq_some_iff.mp H
              obtain ⟨t132, A90, H⟩ := H
              replace H : (if t132 = true then ((slices_Equal_uint32_uint32.f k l0_19 l1_19).bind fun t133 => (some t133)) else (some false)) = some r := H
              have A9 := Aside0.mk A90
              clear A90
              by_cases c10 : t132 = true
              · subst c10
                have H1 : ((slices_Equal_uint32_uint32.f k l0_19 l1_19).bind fun t133 => (some t133)) = some r := by rw [if_pos rfl] at H; exact H
                clear H
                have H := H1
                clear H1
                replace H := Option.bind_eq_some_iff.mp H
                obtain ⟨t133, A110, H⟩ := H
                replace H : (some t133) = some r := H
                have A11 := Aside0.mk A110
                clear A110
                obtain rfl := Option.some.inj H
                go_enter Tryd.func11, Tryd.ntmps11
                go_wp2_with (first | ((with_reducible refine gate_dst (N := 2) rfl ?_); refine box_event ?hg (N := 2) ?hd (cs := #[.int .i64 a0_0, .int .u64 a0_1, .bool a0_2, .int .u64 a0_3, .int .i64 a0_4, .bool a0_5, .int .u32 a0_6, .int .i64 a0_7, .int .i64 a0_8, .int .i64 a0_9, .int .i64 a0_10, .int .i64 a0_11, .int .i64 a0_12, .int .i64 a0_13, .int .i64 a0_14, .int .i64 a0_15, .int .i64 a0_16, .slice A0_17 l0_17.length c0_17, .slice A0_18 l0_18.length c0_18, .slice A0_19 l0_19.length c0_19]) (t := 33) ?hr ?_; (case hd => rfl); (case hg => rfl); (case hr => first | (go_simp; done) | (go_simp; rfl)); intro gb130 hg w12 hbox hb; have n0_ := Aside0.mk (below_step (by repeat (first | (with_reducible first | exact HB.out | apply below_alloc | apply pw_below_drewN | apply below_drew1) | exact HB.out)) hb); have n1_ := Aside0.mk (hbox); have n2_ := Aside0.mk ((by rw [hg]; exact (below_size (by repeat (first | (with_reducible first | exact HB.out | apply below_alloc | apply pw_below_drewN | apply below_drew1) | exact HB.out))) : w.heap.size ≤ gb130)); have n3_ := Aside0.mk ((by rw [hg]; exact (below_size (by repeat (first | (with_reducible first | exact HB.out | apply below_alloc | apply pw_below_drewN | apply below_drew1) | exact HB.out))) : w.heap.size ≤ gb130)); clear HB; have HB := n0_; have BK130 := n1_; have GW130 := n2_; have GE130 := n3_; clear n0_ n1_ n2_ n3_; clear hb hbox hg) | ((with_reducible refine gate_dst (N := 3) rfl ?_); refine box_event ?hg (N := 3) ?hd (cs := #[.int .i64 a1_0, .int .u64 a1_1, .bool a1_2, .int .u64 a1_3, .int .i64 a1_4, .bool a1_5, .int .u32 a1_6, .int .i64 a1_7, .int .i64 a1_8, .int .i64 a1_9, .int .i64 a1_10, .int .i64 a1_11, .int .i64 a1_12, .int .i64 a1_13, .int .i64 a1_14, .int .i64 a1_15, .int .i64 a1_16, .slice A1_17 l1_17.length c1_17, .slice A1_18 l1_18.length c1_18, .slice A1_19 l1_19.length c1_19]) (t := 33) ?hr ?_; (case hd => rfl); (case hg => rfl); (case hr => first | (go_simp; done) | (go_simp; rfl)); intro gb131 hg w13 hbox hb; have n0_ := Aside0.mk (blk_below (g := gb130) (o := .cells #[.int .i64 a0_0, .int .u64 a0_1, .bool a0_2, .int .u64 a0_3, .int .i64 a0_4, .bool a0_5, .int .u32 a0_6, .int .i64 a0_7, .int .i64 a0_8, .int .i64 a0_9, .int .i64 a0_10, .int .i64 a0_11, .int .i64 a0_12, .int .i64 a0_13, .int .i64 a0_14, .int .i64 a0_15, .int .i64 a0_16, .slice A0_17 l0_17.length c0_17, .slice A0_18 l0_18.length c0_18, .slice A0_19 l0_19.length c0_19] 33 (0, 0)) (by (with_reducible repeat (first | refine blk_drewN ?_ _ | refine blk_drew ?_ | refine blk_alloc ?_ _)); exact BK130.out) hb); have n1_ := Aside0.mk (below_step (by repeat (first | (with_reducible first | exact HB.out | apply below_alloc | apply pw_below_drewN | apply below_drew1 | refine below_set ?_ GE130.out) | exact HB.out)) hb); have n2_ := Aside0.mk (hbox); have n3_ := Aside0.mk ((by rw [hg]; exact (below_size (by repeat (first | (with_reducible first | exact HB.out | apply below_alloc | apply pw_below_drewN | apply below_drew1 | refine below_set ?_ GE130.out) | exact HB.out))) : w.heap.size ≤ gb131)); have n4_ := Aside0.mk ((by rw [hg]; exact (below_size (by repeat (first | (with_reducible first | exact HB.out | apply below_alloc | apply pw_below_drewN | apply below_drew1 | refine below_set ?_ GE130.out) | exact HB.out))) : w.heap.size ≤ gb131)); have n5_ := Aside0.mk ((by rw [hg]; exact Nat.ne_of_lt (blk_lt (g := gb130) (o := .cells #[.int .i64 a0_0, .int .u64 a0_1, .bool a0_2, .int .u64 a0_3, .int .i64 a0_4, .bool a0_5, .int .u32 a0_6, .int .i64 a0_7, .int .i64 a0_8, .int .i64 a0_9, .int .i64 a0_10, .int .i64 a0_11, .int .i64 a0_12, .int .i64 a0_13, .int .i64 a0_14, .int .i64 a0_15, .int .i64 a0_16, .slice A0_17 l0_17.length c0_17, .slice A0_18 l0_18.length c0_18, .slice A0_19 l0_19.length c0_19] 33 (0, 0)) (by (with_reducible repeat (first | refine blk_drewN ?_ _ | refine blk_drew ?_ | refine blk_alloc ?_ _)); exact BK130.out)) : gb130 ≠ gb131)); have n6_ := Aside0.mk ((by rw [hg]; exact Nat.ne_of_gt (blk_lt (g := gb130) (o := .cells #[.int .i64 a0_0, .int .u64 a0_1, .bool a0_2, .int .u64 a0_3, .int .i64 a0_4, .bool a0_5, .int .u32 a0_6, .int .i64 a0_7, .int .i64 a0_8, .int .i64 a0_9, .int .i64 a0_10, .int .i64 a0_11, .int .i64 a0_12, .int .i64 a0_13, .int .i64 a0_14, .int .i64 a0_15, .int .i64 a0_16, .slice A0_17 l0_17.length c0_17, .slice A0_18 l0_18.length c0_18, .slice A0_19 l0_19.length c0_19] 33 (0, 0)) (by (with_reducible repeat (first | refine blk_drewN ?_ _ | refine blk_drew ?_ | refine blk_alloc ?_ _)); exact BK130.out)) : gb131 ≠ gb130)); clear BK130; clear HB; have BK130 := n0_; have HB := n1_; have BK131 := n2_; have GW131 := n3_; have GE131 := n4_; have NB130_131 := n5_; have NB131_130 := n6_; clear n0_ n1_ n2_ n3_ n4_ n5_ n6_; clear hb hbox hg; have hnb14 := NB130_131.out; have hnc14 := NB131_130.out; have hcz15_0 : w13.cell? ⟨gb130, 0, none⟩ = some (.int .i64 a0_0) := (blk_cell BK130.out 0).trans rfl; have hcz15_1 : w13.cell? ⟨gb130, 1, none⟩ = some (.int .u64 a0_1) := (blk_cell BK130.out 1).trans rfl; have hcz15_2 : w13.cell? ⟨gb130, 2, none⟩ = some (.bool a0_2) := (blk_cell BK130.out 2).trans rfl; have hcz15_3 : w13.cell? ⟨gb130, 3, none⟩ = some (.int .u64 a0_3) := (blk_cell BK130.out 3).trans rfl; have hcz15_4 : w13.cell? ⟨gb130, 4, none⟩ = some (.int .i64 a0_4) := (blk_cell BK130.out 4).trans rfl; have hcz15_5 : w13.cell? ⟨gb130, 5, none⟩ = some (.bool a0_5) := (blk_cell BK130.out 5).trans rfl; have hcz15_6 : w13.cell? ⟨gb130, 6, none⟩ = some (.int .u32 a0_6) := (blk_cell BK130.out 6).trans rfl; have hcz15_7 : w13.cell? ⟨gb130, 7, none⟩ = some (.int .i64 a0_7) := (blk_cell BK130.out 7).trans rfl; have hcz15_8 : w13.cell? ⟨gb130, 8, none⟩ = some (.int .i64 a0_8) := (blk_cell BK130.out 8).trans rfl; have hcz15_9 : w13.cell? ⟨gb130, 9, none⟩ = some (.int .i64 a0_9) := (blk_cell BK130.out 9).trans rfl; have hcz15_10 : w13.cell? ⟨gb130, 10, none⟩ = some (.int .i64 a0_10) := (blk_cell BK130.out 10).trans rfl; have hcz15_11 : w13.cell? ⟨gb130, 11, none⟩ = some (.int .i64 a0_11) := (blk_cell BK130.out 11).trans rfl; have hcz15_12 : w13.cell? ⟨gb130, 12, none⟩ = some (.int .i64 a0_12) := (blk_cell BK130.out 12).trans rfl; have hcz15_13 : w13.cell? ⟨gb130, 13, none⟩ = some (.int .i64 a0_13) := (blk_cell BK130.out 13).trans rfl; have hcz15_14 : w13.cell? ⟨gb130, 14, none⟩ = some (.int .i64 a0_14) := (blk_cell BK130.out 14).trans rfl; have hcz15_15 : w13.cell? ⟨gb130, 15, none⟩ = some (.int .i64 a0_15) := (blk_cell BK130.out 15).trans rfl; have hcz15_16 : w13.cell? ⟨gb130, 16, none⟩ = some (.int .i64 a0_16) := (blk_cell BK130.out 16).trans rfl; have hcz15_17 : w13.cell? ⟨gb130, 17, none⟩ = some (.slice A0_17 l0_17.length c0_17) := (blk_cell BK130.out 17).trans rfl; have hcz15_18 : w13.cell? ⟨gb130, 18, none⟩ = some (.slice A0_18 l0_18.length c0_18) := (blk_cell BK130.out 18).trans rfl; have hcz15_19 : w13.cell? ⟨gb130, 19, none⟩ = some (.slice A0_19 l0_19.length c0_19) := (blk_cell BK130.out 19).trans rfl; have hfz15_0 := blk_frozen BK130.out 0; have hfz15_1 := blk_frozen BK130.out 1; have hfz15_2 := blk_frozen BK130.out 2; have hfz15_3 := blk_frozen BK130.out 3; have hfz15_4 := blk_frozen BK130.out 4; have hfz15_5 := blk_frozen BK130.out 5; have hfz15_6 := blk_frozen BK130.out 6; have hfz15_7 := blk_frozen BK130.out 7; have hfz15_8 := blk_frozen BK130.out 8; have hfz15_9 := blk_frozen BK130.out 9; have hfz15_10 := blk_frozen BK130.out 10; have hfz15_11 := blk_frozen BK130.out 11; have hfz15_12 := blk_frozen BK130.out 12; have hfz15_13 := blk_frozen BK130.out 13; have hfz15_14 := blk_frozen BK130.out 14; have hfz15_15 := blk_frozen BK130.out 15; have hfz15_16 := blk_frozen BK130.out 16; have hfz15_17 := blk_frozen BK130.out 17; have hfz15_18 := blk_frozen BK130.out 18; have hfz15_19 := blk_frozen BK130.out 19; have hcz16_0 : w13.cell? ⟨gb131, 0, none⟩ = some (.int .i64 a1_0) := (blk_cell BK131.out 0).trans rfl; have hcz16_1 : w13.cell? ⟨gb131, 1, none⟩ = some (.int .u64 a1_1) := (blk_cell BK131.out 1).trans rfl; have hcz16_2 : w13.cell? ⟨gb131, 2, none⟩ = some (.bool a1_2) := (blk_cell BK131.out 2).trans rfl; have hcz16_3 : w13.cell? ⟨gb131, 3, none⟩ = some (.int .u64 a1_3) := (blk_cell BK131.out 3).trans rfl; have hcz16_4 : w13.cell? ⟨gb131, 4, none⟩ = some (.int .i64 a1_4) := (blk_cell BK131.out 4).trans rfl; have hcz16_5 : w13.cell? ⟨gb131, 5, none⟩ = some (.bool a1_5) := (blk_cell BK131.out 5).trans rfl; have hcz16_6 : w13.cell? ⟨gb131, 6, none⟩ = some (.int .u32 a1_6) := (blk_cell BK131.out 6).trans rfl; have hcz16_7 : w13.cell? ⟨gb131, 7, none⟩ = some (.int .i64 a1_7) := (blk_cell BK131.out 7).trans rfl; have hcz16_8 : w13.cell? ⟨gb131, 8, none⟩ = some (.int .i64 a1_8) := (blk_cell BK131.out 8).trans rfl; have hcz16_9 : w13.cell? ⟨gb131, 9, none⟩ = some (.int .i64 a1_9) := (blk_cell BK131.out 9).trans rfl; have hcz16_10 : w13.cell? ⟨gb131, 10, none⟩ = some (.int .i64 a1_10) := (blk_cell BK131.out 10).trans rfl; have hcz16_11 : w13.cell? ⟨gb131, 11, none⟩ = some (.int .i64 a1_11) := (blk_cell BK131.out 11).trans rfl; have hcz16_12 : w13.cell? ⟨gb131, 12, none⟩ = some (.int .i64 a1_12) := (blk_cell BK131.out 12).trans rfl; have hcz16_13 : w13.cell? ⟨gb131, 13, none⟩ = some (.int .i64 a1_13) := (blk_cell BK131.out 13).trans rfl; have hcz16_14 : w13.cell? ⟨gb131, 14, none⟩ = some (.int .i64 a1_14) := (blk_cell BK131.out 14).trans rfl; have hcz16_15 : w13.cell? ⟨gb131, 15, none⟩ = some (.int .i64 a1_15) := (blk_cell BK131.out 15).trans rfl; have hcz16_16 : w13.cell? ⟨gb131, 16, none⟩ = some (.int .i64 a1_16) := (blk_cell BK131.out 16).trans rfl; have hcz16_17 : w13.cell? ⟨gb131, 17, none⟩ = some (.slice A1_17 l1_17.length c1_17) := (blk_cell BK131.out 17).trans rfl; have hcz16_18 : w13.cell? ⟨gb131, 18, none⟩ = some (.slice A1_18 l1_18.length c1_18) := (blk_cell BK131.out 18).trans rfl; have hcz16_19 : w13.cell? ⟨gb131, 19, none⟩ = some (.slice A1_19 l1_19.length c1_19) := (blk_cell BK131.out 19).trans rfl; have hfz16_0 := blk_frozen BK131.out 0; have hfz16_1 := blk_frozen BK131.out 1; have hfz16_2 := blk_frozen BK131.out 2; have hfz16_3 := blk_frozen BK131.out 3; have hfz16_4 := blk_frozen BK131.out 4; have hfz16_5 := blk_frozen BK131.out 5; have hfz16_6 := blk_frozen BK131.out 6; have hfz16_7 := blk_frozen BK131.out 7; have hfz16_8 := blk_frozen BK131.out 8; have hfz16_9 := blk_frozen BK131.out 9; have hfz16_10 := blk_frozen BK131.out 10; have hfz16_11 := blk_frozen BK131.out 11; have hfz16_12 := blk_frozen BK131.out 12; have hfz16_13 := blk_frozen BK131.out 13; have hfz16_14 := blk_frozen BK131.out 14; have hfz16_15 := blk_frozen BK131.out 15; have hfz16_16 := blk_frozen BK131.out 16; have hfz16_17 := blk_frozen BK131.out 17; have hfz16_18 := blk_frozen BK131.out 18; have hfz16_19 := blk_frozen BK131.out 19) | (go_at_call 33; (with_reducible refine (cursor_Same.calls k a0_13 a0_14 a0_15 a0_16 _ _ l0_17 _ _ l0_18 a1_13 a1_14 a1_15 a1_16 _ _ l1_17 _ _ l1_18 true _ ?side1 ?side2 ?side3 ?side4 ?side5 ?side6 ?side7 ?side8 A9.out).mono ?_); (case side1 => repeat (first | exact (Kd.C_below HR0_17.out HB.out) | (with_reducible refine Kd.C_alloc ?_ _) | (with_reducible refine Kd.C_drewN ?_ _) | (with_reducible refine Kd.C_drew ?_))); (case side2 => exact HC0_17.out); (case side3 => repeat (first | exact (Kd.C_below HR0_18.out HB.out) | (with_reducible refine Kd.C_alloc ?_ _) | (with_reducible refine Kd.C_drewN ?_ _) | (with_reducible refine Kd.C_drew ?_))); (case side4 => exact HC0_18.out); (case side5 => repeat (first | exact (Kd.C_below HR1_17.out HB.out) | (with_reducible refine Kd.C_alloc ?_ _) | (with_reducible refine Kd.C_drewN ?_ _) | (with_reducible refine Kd.C_drew ?_))); (case side6 => exact HC1_17.out); (case side7 => repeat (first | exact (Kd.C_below HR1_18.out HB.out) | (with_reducible refine Kd.C_alloc ?_ _) | (with_reducible refine Kd.C_drewN ?_ _) | (with_reducible refine Kd.C_drew ?_))); (case side8 => exact HC1_18.out); rintro e w17 ⟨rfl, hb⟩; have n0_ := Aside0.mk (blk_below (g := gb130) (o := .cells #[.int .i64 a0_0, .int .u64 a0_1, .bool a0_2, .int .u64 a0_3, .int .i64 a0_4, .bool a0_5, .int .u32 a0_6, .int .i64 a0_7, .int .i64 a0_8, .int .i64 a0_9, .int .i64 a0_10, .int .i64 a0_11, .int .i64 a0_12, .int .i64 a0_13, .int .i64 a0_14, .int .i64 a0_15, .int .i64 a0_16, .slice A0_17 l0_17.length c0_17, .slice A0_18 l0_18.length c0_18, .slice A0_19 l0_19.length c0_19] 33 (0, 0)) (by (with_reducible repeat (first | refine blk_drewN ?_ _ | refine blk_drew ?_ | refine blk_alloc ?_ _)); exact BK130.out) hb); have n1_ := Aside0.mk (blk_below (g := gb131) (o := .cells #[.int .i64 a1_0, .int .u64 a1_1, .bool a1_2, .int .u64 a1_3, .int .i64 a1_4, .bool a1_5, .int .u32 a1_6, .int .i64 a1_7, .int .i64 a1_8, .int .i64 a1_9, .int .i64 a1_10, .int .i64 a1_11, .int .i64 a1_12, .int .i64 a1_13, .int .i64 a1_14, .int .i64 a1_15, .int .i64 a1_16, .slice A1_17 l1_17.length c1_17, .slice A1_18 l1_18.length c1_18, .slice A1_19 l1_19.length c1_19] 33 (0, 0)) (by (with_reducible repeat (first | refine blk_drewN ?_ _ | refine blk_drew ?_ | refine blk_alloc ?_ _)); exact BK131.out) hb); have n2_ := Aside0.mk (below_step (by repeat (first | (with_reducible first | exact HB.out | apply below_alloc | apply pw_below_drewN | apply below_drew1 | refine below_set ?_ GE130.out | refine below_set ?_ GE131.out) | exact HB.out)) hb); clear BK130; clear BK131; clear HB; have BK130 := n0_; have BK131 := n1_; have HB := n2_; clear n0_ n1_ n2_; (try clear hb); (try clear hb2); (try clear hk); (try clear hi); have hcz18_0 : w17.cell? ⟨gb130, 0, none⟩ = some (.int .i64 a0_0) := (blk_cell BK130.out 0).trans rfl; have hcz18_1 : w17.cell? ⟨gb130, 1, none⟩ = some (.int .u64 a0_1) := (blk_cell BK130.out 1).trans rfl; have hcz18_2 : w17.cell? ⟨gb130, 2, none⟩ = some (.bool a0_2) := (blk_cell BK130.out 2).trans rfl; have hcz18_3 : w17.cell? ⟨gb130, 3, none⟩ = some (.int .u64 a0_3) := (blk_cell BK130.out 3).trans rfl; have hcz18_4 : w17.cell? ⟨gb130, 4, none⟩ = some (.int .i64 a0_4) := (blk_cell BK130.out 4).trans rfl; have hcz18_5 : w17.cell? ⟨gb130, 5, none⟩ = some (.bool a0_5) := (blk_cell BK130.out 5).trans rfl; have hcz18_6 : w17.cell? ⟨gb130, 6, none⟩ = some (.int .u32 a0_6) := (blk_cell BK130.out 6).trans rfl; have hcz18_7 : w17.cell? ⟨gb130, 7, none⟩ = some (.int .i64 a0_7) := (blk_cell BK130.out 7).trans rfl; have hcz18_8 : w17.cell? ⟨gb130, 8, none⟩ = some (.int .i64 a0_8) := (blk_cell BK130.out 8).trans rfl; have hcz18_9 : w17.cell? ⟨gb130, 9, none⟩ = some (.int .i64 a0_9) := (blk_cell BK130.out 9).trans rfl; have hcz18_10 : w17.cell? ⟨gb130, 10, none⟩ = some (.int .i64 a0_10) := (blk_cell BK130.out 10).trans rfl; have hcz18_11 : w17.cell? ⟨gb130, 11, none⟩ = some (.int .i64 a0_11) := (blk_cell BK130.out 11).trans rfl; have hcz18_12 : w17.cell? ⟨gb130, 12, none⟩ = some (.int .i64 a0_12) := (blk_cell BK130.out 12).trans rfl; have hcz18_13 : w17.cell? ⟨gb130, 13, none⟩ = some (.int .i64 a0_13) := (blk_cell BK130.out 13).trans rfl; have hcz18_14 : w17.cell? ⟨gb130, 14, none⟩ = some (.int .i64 a0_14) := (blk_cell BK130.out 14).trans rfl; have hcz18_15 : w17.cell? ⟨gb130, 15, none⟩ = some (.int .i64 a0_15) := (blk_cell BK130.out 15).trans rfl; have hcz18_16 : w17.cell? ⟨gb130, 16, none⟩ = some (.int .i64 a0_16) := (blk_cell BK130.out 16).trans rfl; have hcz18_17 : w17.cell? ⟨gb130, 17, none⟩ = some (.slice A0_17 l0_17.length c0_17) := (blk_cell BK130.out 17).trans rfl; have hcz18_18 : w17.cell? ⟨gb130, 18, none⟩ = some (.slice A0_18 l0_18.length c0_18) := (blk_cell BK130.out 18).trans rfl; have hcz18_19 : w17.cell? ⟨gb130, 19, none⟩ = some (.slice A0_19 l0_19.length c0_19) := (blk_cell BK130.out 19).trans rfl; have hfz18_0 := blk_frozen BK130.out 0; have hfz18_1 := blk_frozen BK130.out 1; have hfz18_2 := blk_frozen BK130.out 2; have hfz18_3 := blk_frozen BK130.out 3; have hfz18_4 := blk_frozen BK130.out 4; have hfz18_5 := blk_frozen BK130.out 5; have hfz18_6 := blk_frozen BK130.out 6; have hfz18_7 := blk_frozen BK130.out 7; have hfz18_8 := blk_frozen BK130.out 8; have hfz18_9 := blk_frozen BK130.out 9; have hfz18_10 := blk_frozen BK130.out 10; have hfz18_11 := blk_frozen BK130.out 11; have hfz18_12 := blk_frozen BK130.out 12; have hfz18_13 := blk_frozen BK130.out 13; have hfz18_14 := blk_frozen BK130.out 14; have hfz18_15 := blk_frozen BK130.out 15; have hfz18_16 := blk_frozen BK130.out 16; have hfz18_17 := blk_frozen BK130.out 17; have hfz18_18 := blk_frozen BK130.out 18; have hfz18_19 := blk_frozen BK130.out 19; have hcz19_0 : w17.cell? ⟨gb131, 0, none⟩ = some (.int .i64 a1_0) := (blk_cell BK131.out 0).trans rfl; have hcz19_1 : w17.cell? ⟨gb131, 1, none⟩ = some (.int .u64 a1_1) := (blk_cell BK131.out 1).trans rfl; have hcz19_2 : w17.cell? ⟨gb131, 2, none⟩ = some (.bool a1_2) := (blk_cell BK131.out 2).trans rfl; have hcz19_3 : w17.cell? ⟨gb131, 3, none⟩ = some (.int .u64 a1_3) := (blk_cell BK131.out 3).trans rfl; have hcz19_4 : w17.cell? ⟨gb131, 4, none⟩ = some (.int .i64 a1_4) := (blk_cell BK131.out 4).trans rfl; have hcz19_5 : w17.cell? ⟨gb131, 5, none⟩ = some (.bool a1_5) := (blk_cell BK131.out 5).trans rfl; have hcz19_6 : w17.cell? ⟨gb131, 6, none⟩ = some (.int .u32 a1_6) := (blk_cell BK131.out 6).trans rfl; have hcz19_7 : w17.cell? ⟨gb131, 7, none⟩ = some (.int .i64 a1_7) := (blk_cell BK131.out 7).trans rfl; have hcz19_8 : w17.cell? ⟨gb131, 8, none⟩ = some (.int .i64 a1_8) := (blk_cell BK131.out 8).trans rfl; have hcz19_9 : w17.cell? ⟨gb131, 9, none⟩ = some (.int .i64 a1_9) := (blk_cell BK131.out 9).trans rfl; have hcz19_10 : w17.cell? ⟨gb131, 10, none⟩ = some (.int .i64 a1_10) := (blk_cell BK131.out 10).trans rfl; have hcz19_11 : w17.cell? ⟨gb131, 11, none⟩ = some (.int .i64 a1_11) := (blk_cell BK131.out 11).trans rfl; have hcz19_12 : w17.cell? ⟨gb131, 12, none⟩ = some (.int .i64 a1_12) := (blk_cell BK131.out 12).trans rfl; have hcz19_13 : w17.cell? ⟨gb131, 13, none⟩ = some (.int .i64 a1_13) := (blk_cell BK131.out 13).trans rfl; have hcz19_14 : w17.cell? ⟨gb131, 14, none⟩ = some (.int .i64 a1_14) := (blk_cell BK131.out 14).trans rfl; have hcz19_15 : w17.cell? ⟨gb131, 15, none⟩ = some (.int .i64 a1_15) := (blk_cell BK131.out 15).trans rfl; have hcz19_16 : w17.cell? ⟨gb131, 16, none⟩ = some (.int .i64 a1_16) := (blk_cell BK131.out 16).trans rfl; have hcz19_17 : w17.cell? ⟨gb131, 17, none⟩ = some (.slice A1_17 l1_17.length c1_17) := (blk_cell BK131.out 17).trans rfl; have hcz19_18 : w17.cell? ⟨gb131, 18, none⟩ = some (.slice A1_18 l1_18.length c1_18) := (blk_cell BK131.out 18).trans rfl; have hcz19_19 : w17.cell? ⟨gb131, 19, none⟩ = some (.slice A1_19 l1_19.length c1_19) := (blk_cell BK131.out 19).trans rfl; have hfz19_0 := blk_frozen BK131.out 0; have hfz19_1 := blk_frozen BK131.out 1; have hfz19_2 := blk_frozen BK131.out 2; have hfz19_3 := blk_frozen BK131.out 3; have hfz19_4 := blk_frozen BK131.out 4; have hfz19_5 := blk_frozen BK131.out 5; have hfz19_6 := blk_frozen BK131.out 6; have hfz19_7 := blk_frozen BK131.out 7; have hfz19_8 := blk_frozen BK131.out 8; have hfz19_9 := blk_frozen BK131.out 9; have hfz19_10 := blk_frozen BK131.out 10; have hfz19_11 := blk_frozen BK131.out 11; have hfz19_12 := blk_frozen BK131.out 12; have hfz19_13 := blk_frozen BK131.out 13; have hfz19_14 := blk_frozen BK131.out 14; have hfz19_15 := blk_frozen BK131.out 15; have hfz19_16 := blk_frozen BK131.out 16; have hfz19_17 := blk_frozen BK131.out 17; have hfz19_18 := blk_frozen BK131.out 18; have hfz19_19 := blk_frozen BK131.out 19) | (go_at_call 34; (with_reducible refine (slices_Equal_uint32_uint32.calls k _ _ l0_19 _ _ l1_19 t133 _ ?side1 ?side2 ?side3 ?side4 A11.out).mono ?_); (case side1 => repeat (first | exact (Kd.C_below HR0_19.out HB.out) | (with_reducible refine Kd.C_alloc ?_ _) | (with_reducible refine Kd.C_drewN ?_ _) | (with_reducible refine Kd.C_drew ?_))); (case side2 => exact HC0_19.out); (case side3 => repeat (first | exact (Kd.C_below HR1_19.out HB.out) | (with_reducible refine Kd.C_alloc ?_ _) | (with_reducible refine Kd.C_drewN ?_ _) | (with_reducible refine Kd.C_drew ?_))); (case side4 => exact HC1_19.out); rintro e w' ⟨rfl, ⟨nd, rfl⟩⟩))
                go_ret
                exact ⟨by first | rfl | (simp [errW_none, errW_some] <;> rfl) | (simp [*, errW_none, errW_some] <;> rfl), by repeat (first | (with_reducible first | exact HB.out | apply below_alloc | apply pw_below_drewN | apply below_drew1 | refine below_set ?_ GE130.out | refine below_set ?_ GE131.out) | exact HB.out)⟩
              · replace c10 := Bool.eq_false_iff.mpr c10
                subst c10
                have H1 : (some false) = some r := by rw [if_neg (show ¬ (false = true) by decide)] at H; exact H
                clear H
                have H := H1
                clear H1
                obtain rfl := Option.some.inj H
                go_enter Tryd.func11, Tryd.ntmps11
                go_wp2_with (first | ((with_reducible refine gate_dst (N := 2) rfl ?_); refine box_event ?hg (N := 2) ?hd (cs := #[.int .i64 a0_0, .int .u64 a0_1, .bool a0_2, .int .u64 a0_3, .int .i64 a0_4, .bool a0_5, .int .u32 a0_6, .int .i64 a0_7, .int .i64 a0_8, .int .i64 a0_9, .int .i64 a0_10, .int .i64 a0_11, .int .i64 a0_12, .int .i64 a0_13, .int .i64 a0_14, .int .i64 a0_15, .int .i64 a0_16, .slice A0_17 l0_17.length c0_17, .slice A0_18 l0_18.length c0_18, .slice A0_19 l0_19.length c0_19]) (t := 33) ?hr ?_; (case hd => rfl); (case hg => rfl); (case hr => first | (go_simp; done) | (go_simp; rfl)); intro gb130 hg w20 hbox hb; have n0_ := Aside0.mk (below_step (by repeat (first | (with_reducible first | exact HB.out | apply below_alloc | apply pw_below_drewN | apply below_drew1) | exact HB.out)) hb); have n1_ := Aside0.mk (hbox); have n2_ := Aside0.mk ((by rw [hg]; exact (below_size (by repeat (first | (with_reducible first | exact HB.out | apply below_alloc | apply pw_below_drewN | apply below_drew1) | exact HB.out))) : w.heap.size ≤ gb130)); have n3_ := Aside0.mk ((by rw [hg]; exact (below_size (by repeat (first | (with_reducible first | exact HB.out | apply below_alloc | apply pw_below_drewN | apply below_drew1) | exact HB.out))) : w.heap.size ≤ gb130)); clear HB; have HB := n0_; have BK130 := n1_; have GW130 := n2_; have GE130 := n3_; clear n0_ n1_ n2_ n3_; clear hb hbox hg) | ((with_reducible refine gate_dst (N := 3) rfl ?_); refine box_event ?hg (N := 3) ?hd (cs := #[.int .i64 a1_0, .int .u64 a1_1, .bool a1_2, .int .u64 a1_3, .int .i64 a1_4, .bool a1_5, .int .u32 a1_6, .int .i64 a1_7, .int .i64 a1_8, .int .i64 a1_9, .int .i64 a1_10, .int .i64 a1_11, .int .i64 a1_12, .int .i64 a1_13, .int .i64 a1_14, .int .i64 a1_15, .int .i64 a1_16, .slice A1_17 l1_17.length c1_17, .slice A1_18 l1_18.length c1_18, .slice A1_19 l1_19.length c1_19]) (t := 33) ?hr ?_; (case hd => rfl); (case hg => rfl); (case hr => first | (go_simp; done) | (go_simp; rfl)); intro gb131 hg w21 hbox hb; have n0_ := Aside0.mk (blk_below (g := gb130) (o := .cells #[.int .i64 a0_0, .int .u64 a0_1, .bool a0_2, .int .u64 a0_3, .int .i64 a0_4, .bool a0_5, .int .u32 a0_6, .int .i64 a0_7, .int .i64 a0_8, .int .i64 a0_9, .int .i64 a0_10, .int .i64 a0_11, .int .i64 a0_12, .int .i64 a0_13, .int .i64 a0_14, .int .i64 a0_15, .int .i64 a0_16, .slice A0_17 l0_17.length c0_17, .slice A0_18 l0_18.length c0_18, .slice A0_19 l0_19.length c0_19] 33 (0, 0)) (by (with_reducible repeat (first | refine blk_drewN ?_ _ | refine blk_drew ?_ | refine blk_alloc ?_ _)); exact BK130.out) hb); have n1_ := Aside0.mk (below_step (by repeat (first | (with_reducible first | exact HB.out | apply below_alloc | apply pw_below_drewN | apply below_drew1 | refine below_set ?_ GE130.out) | exact HB.out)) hb); have n2_ := Aside0.mk (hbox); have n3_ := Aside0.mk ((by rw [hg]; exact (below_size (by repeat (first | (with_reducible first | exact HB.out | apply below_alloc | apply pw_below_drewN | apply below_drew1 | refine below_set ?_ GE130.out) | exact HB.out))) : w.heap.size ≤ gb131)); have n4_ := Aside0.mk ((by rw [hg]; exact (below_size (by repeat (first | (with_reducible first | exact HB.out | apply below_alloc | apply pw_below_drewN | apply below_drew1 | refine below_set ?_ GE130.out) | exact HB.out))) : w.heap.size ≤ gb131)); have n5_ := Aside0.mk ((by rw [hg]; exact Nat.ne_of_lt (blk_lt (g := gb130) (o := .cells #[.int .i64 a0_0, .int .u64 a0_1, .bool a0_2, .int .u64 a0_3, .int .i64 a0_4, .bool a0_5, .int .u32 a0_6, .int .i64 a0_7, .int .i64 a0_8, .int .i64 a0_9, .int .i64 a0_10, .int .i64 a0_11, .int .i64 a0_12, .int .i64 a0_13, .int .i64 a0_14, .int .i64 a0_15, .int .i64 a0_16, .slice A0_17 l0_17.length c0_17, .slice A0_18 l0_18.length c0_18, .slice A0_19 l0_19.length c0_19] 33 (0, 0)) (by (with_reducible repeat (first | refine blk_drewN ?_ _ | refine blk_drew ?_ | refine blk_alloc ?_ _)); exact BK130.out)) : gb130 ≠ gb131)); have n6_ := Aside0.mk ((by rw [hg]; exact Nat.ne_of_gt (blk_lt (g := gb130) (o := .cells #[.int .i64 a0_0, .int .u64 a0_1, .bool a0_2, .int .u64 a0_3, .int .i64 a0_4, .bool a0_5, .int .u32 a0_6, .int .i64 a0_7, .int .i64 a0_8, .int .i64 a0_9, .int .i64 a0_10, .int .i64 a0_11, .int .i64 a0_12, .int .i64 a0_13, .int .i64 a0_14, .int .i64 a0_15, .int .i64 a0_16, .slice A0_17 l0_17.length c0_17, .slice A0_18 l0_18.length c0_18, .slice A0_19 l0_19.length c0_19] 33 (0, 0)) (by (with_reducible repeat (first | refine blk_drewN ?_ _ | refine blk_drew ?_ | refine blk_alloc ?_ _)); exact BK130.out)) : gb131 ≠ gb130)); clear BK130; clear HB; have BK130 := n0_; have HB := n1_; have BK131 := n2_; have GW131 := n3_; have GE131 := n4_; have NB130_131 := n5_; have NB131_130 := n6_; clear n0_ n1_ n2_ n3_ n4_ n5_ n6_; clear hb hbox hg; have hnb22 := NB130_131.out; have hnc22 := NB131_130.out; have hcz23_0 : w21.cell? ⟨gb130, 0, none⟩ = some (.int .i64 a0_0) := (blk_cell BK130.out 0).trans rfl; have hcz23_1 : w21.cell? ⟨gb130, 1, none⟩ = some (.int .u64 a0_1) := (blk_cell BK130.out 1).trans rfl; have hcz23_2 : w21.cell? ⟨gb130, 2, none⟩ = some (.bool a0_2) := (blk_cell BK130.out 2).trans rfl; have hcz23_3 : w21.cell? ⟨gb130, 3, none⟩ = some (.int .u64 a0_3) := (blk_cell BK130.out 3).trans rfl; have hcz23_4 : w21.cell? ⟨gb130, 4, none⟩ = some (.int .i64 a0_4) := (blk_cell BK130.out 4).trans rfl; have hcz23_5 : w21.cell? ⟨gb130, 5, none⟩ = some (.bool a0_5) := (blk_cell BK130.out 5).trans rfl; have hcz23_6 : w21.cell? ⟨gb130, 6, none⟩ = some (.int .u32 a0_6) := (blk_cell BK130.out 6).trans rfl; have hcz23_7 : w21.cell? ⟨gb130, 7, none⟩ = some (.int .i64 a0_7) := (blk_cell BK130.out 7).trans rfl; have hcz23_8 : w21.cell? ⟨gb130, 8, none⟩ = some (.int .i64 a0_8) := (blk_cell BK130.out 8).trans rfl; have hcz23_9 : w21.cell? ⟨gb130, 9, none⟩ = some (.int .i64 a0_9) := (blk_cell BK130.out 9).trans rfl; have hcz23_10 : w21.cell? ⟨gb130, 10, none⟩ = some (.int .i64 a0_10) := (blk_cell BK130.out 10).trans rfl; have hcz23_11 : w21.cell? ⟨gb130, 11, none⟩ = some (.int .i64 a0_11) := (blk_cell BK130.out 11).trans rfl; have hcz23_12 : w21.cell? ⟨gb130, 12, none⟩ = some (.int .i64 a0_12) := (blk_cell BK130.out 12).trans rfl; have hcz23_13 : w21.cell? ⟨gb130, 13, none⟩ = some (.int .i64 a0_13) := (blk_cell BK130.out 13).trans rfl; have hcz23_14 : w21.cell? ⟨gb130, 14, none⟩ = some (.int .i64 a0_14) := (blk_cell BK130.out 14).trans rfl; have hcz23_15 : w21.cell? ⟨gb130, 15, none⟩ = some (.int .i64 a0_15) := (blk_cell BK130.out 15).trans rfl; have hcz23_16 : w21.cell? ⟨gb130, 16, none⟩ = some (.int .i64 a0_16) := (blk_cell BK130.out 16).trans rfl; have hcz23_17 : w21.cell? ⟨gb130, 17, none⟩ = some (.slice A0_17 l0_17.length c0_17) := (blk_cell BK130.out 17).trans rfl; have hcz23_18 : w21.cell? ⟨gb130, 18, none⟩ = some (.slice A0_18 l0_18.length c0_18) := (blk_cell BK130.out 18).trans rfl; have hcz23_19 : w21.cell? ⟨gb130, 19, none⟩ = some (.slice A0_19 l0_19.length c0_19) := (blk_cell BK130.out 19).trans rfl; have hfz23_0 := blk_frozen BK130.out 0; have hfz23_1 := blk_frozen BK130.out 1; have hfz23_2 := blk_frozen BK130.out 2; have hfz23_3 := blk_frozen BK130.out 3; have hfz23_4 := blk_frozen BK130.out 4; have hfz23_5 := blk_frozen BK130.out 5; have hfz23_6 := blk_frozen BK130.out 6; have hfz23_7 := blk_frozen BK130.out 7; have hfz23_8 := blk_frozen BK130.out 8; have hfz23_9 := blk_frozen BK130.out 9; have hfz23_10 := blk_frozen BK130.out 10; have hfz23_11 := blk_frozen BK130.out 11; have hfz23_12 := blk_frozen BK130.out 12; have hfz23_13 := blk_frozen BK130.out 13; have hfz23_14 := blk_frozen BK130.out 14; have hfz23_15 := blk_frozen BK130.out 15; have hfz23_16 := blk_frozen BK130.out 16; have hfz23_17 := blk_frozen BK130.out 17; have hfz23_18 := blk_frozen BK130.out 18; have hfz23_19 := blk_frozen BK130.out 19; have hcz24_0 : w21.cell? ⟨gb131, 0, none⟩ = some (.int .i64 a1_0) := (blk_cell BK131.out 0).trans rfl; have hcz24_1 : w21.cell? ⟨gb131, 1, none⟩ = some (.int .u64 a1_1) := (blk_cell BK131.out 1).trans rfl; have hcz24_2 : w21.cell? ⟨gb131, 2, none⟩ = some (.bool a1_2) := (blk_cell BK131.out 2).trans rfl; have hcz24_3 : w21.cell? ⟨gb131, 3, none⟩ = some (.int .u64 a1_3) := (blk_cell BK131.out 3).trans rfl; have hcz24_4 : w21.cell? ⟨gb131, 4, none⟩ = some (.int .i64 a1_4) := (blk_cell BK131.out 4).trans rfl; have hcz24_5 : w21.cell? ⟨gb131, 5, none⟩ = some (.bool a1_5) := (blk_cell BK131.out 5).trans rfl; have hcz24_6 : w21.cell? ⟨gb131, 6, none⟩ = some (.int .u32 a1_6) := (blk_cell BK131.out 6).trans rfl; have hcz24_7 : w21.cell? ⟨gb131, 7, none⟩ = some (.int .i64 a1_7) := (blk_cell BK131.out 7).trans rfl; have hcz24_8 : w21.cell? ⟨gb131, 8, none⟩ = some (.int .i64 a1_8) := (blk_cell BK131.out 8).trans rfl; have hcz24_9 : w21.cell? ⟨gb131, 9, none⟩ = some (.int .i64 a1_9) := (blk_cell BK131.out 9).trans rfl; have hcz24_10 : w21.cell? ⟨gb131, 10, none⟩ = some (.int .i64 a1_10) := (blk_cell BK131.out 10).trans rfl; have hcz24_11 : w21.cell? ⟨gb131, 11, none⟩ = some (.int .i64 a1_11) := (blk_cell BK131.out 11).trans rfl; have hcz24_12 : w21.cell? ⟨gb131, 12, none⟩ = some (.int .i64 a1_12) := (blk_cell BK131.out 12).trans rfl; have hcz24_13 : w21.cell? ⟨gb131, 13, none⟩ = some (.int .i64 a1_13) := (blk_cell BK131.out 13).trans rfl; have hcz24_14 : w21.cell? ⟨gb131, 14, none⟩ = some (.int .i64 a1_14) := (blk_cell BK131.out 14).trans rfl; have hcz24_15 : w21.cell? ⟨gb131, 15, none⟩ = some (.int .i64 a1_15) := (blk_cell BK131.out 15).trans rfl; have hcz24_16 : w21.cell? ⟨gb131, 16, none⟩ = some (.int .i64 a1_16) := (blk_cell BK131.out 16).trans rfl; have hcz24_17 : w21.cell? ⟨gb131, 17, none⟩ = some (.slice A1_17 l1_17.length c1_17) := (blk_cell BK131.out 17).trans rfl; have hcz24_18 : w21.cell? ⟨gb131, 18, none⟩ = some (.slice A1_18 l1_18.length c1_18) := (blk_cell BK131.out 18).trans rfl; have hcz24_19 : w21.cell? ⟨gb131, 19, none⟩ = some (.slice A1_19 l1_19.length c1_19) := (blk_cell BK131.out 19).trans rfl; have hfz24_0 := blk_frozen BK131.out 0; have hfz24_1 := blk_frozen BK131.out 1; have hfz24_2 := blk_frozen BK131.out 2; have hfz24_3 := blk_frozen BK131.out 3; have hfz24_4 := blk_frozen BK131.out 4; have hfz24_5 := blk_frozen BK131.out 5; have hfz24_6 := blk_frozen BK131.out 6; have hfz24_7 := blk_frozen BK131.out 7; have hfz24_8 := blk_frozen BK131.out 8; have hfz24_9 := blk_frozen BK131.out 9; have hfz24_10 := blk_frozen BK131.out 10; have hfz24_11 := blk_frozen BK131.out 11; have hfz24_12 := blk_frozen BK131.out 12; have hfz24_13 := blk_frozen BK131.out 13; have hfz24_14 := blk_frozen BK131.out 14; have hfz24_15 := blk_frozen BK131.out 15; have hfz24_16 := blk_frozen BK131.out 16; have hfz24_17 := blk_frozen BK131.out 17; have hfz24_18 := blk_frozen BK131.out 18; have hfz24_19 := blk_frozen BK131.out 19) | (go_at_call 33; (with_reducible refine (cursor_Same.calls k a0_13 a0_14 a0_15 a0_16 _ _ l0_17 _ _ l0_18 a1_13 a1_14 a1_15 a1_16 _ _ l1_17 _ _ l1_18 false _ ?side1 ?side2 ?side3 ?side4 ?side5 ?side6 ?side7 ?side8 A9.out).mono ?_); (case side1 => repeat (first | exact (Kd.C_below HR0_17.out HB.out) | (with_reducible refine Kd.C_alloc ?_ _) | (with_reducible refine Kd.C_drewN ?_ _) | (with_reducible refine Kd.C_drew ?_))); (case side2 => exact HC0_17.out); (case side3 => repeat (first | exact (Kd.C_below HR0_18.out HB.out) | (with_reducible refine Kd.C_alloc ?_ _) | (with_reducible refine Kd.C_drewN ?_ _) | (with_reducible refine Kd.C_drew ?_))); (case side4 => exact HC0_18.out); (case side5 => repeat (first | exact (Kd.C_below HR1_17.out HB.out) | (with_reducible refine Kd.C_alloc ?_ _) | (with_reducible refine Kd.C_drewN ?_ _) | (with_reducible refine Kd.C_drew ?_))); (case side6 => exact HC1_17.out); (case side7 => repeat (first | exact (Kd.C_below HR1_18.out HB.out) | (with_reducible refine Kd.C_alloc ?_ _) | (with_reducible refine Kd.C_drewN ?_ _) | (with_reducible refine Kd.C_drew ?_))); (case side8 => exact HC1_18.out); rintro e w25 ⟨rfl, hb⟩; have n0_ := Aside0.mk (blk_below (g := gb130) (o := .cells #[.int .i64 a0_0, .int .u64 a0_1, .bool a0_2, .int .u64 a0_3, .int .i64 a0_4, .bool a0_5, .int .u32 a0_6, .int .i64 a0_7, .int .i64 a0_8, .int .i64 a0_9, .int .i64 a0_10, .int .i64 a0_11, .int .i64 a0_12, .int .i64 a0_13, .int .i64 a0_14, .int .i64 a0_15, .int .i64 a0_16, .slice A0_17 l0_17.length c0_17, .slice A0_18 l0_18.length c0_18, .slice A0_19 l0_19.length c0_19] 33 (0, 0)) (by (with_reducible repeat (first | refine blk_drewN ?_ _ | refine blk_drew ?_ | refine blk_alloc ?_ _)); exact BK130.out) hb); have n1_ := Aside0.mk (blk_below (g := gb131) (o := .cells #[.int .i64 a1_0, .int .u64 a1_1, .bool a1_2, .int .u64 a1_3, .int .i64 a1_4, .bool a1_5, .int .u32 a1_6, .int .i64 a1_7, .int .i64 a1_8, .int .i64 a1_9, .int .i64 a1_10, .int .i64 a1_11, .int .i64 a1_12, .int .i64 a1_13, .int .i64 a1_14, .int .i64 a1_15, .int .i64 a1_16, .slice A1_17 l1_17.length c1_17, .slice A1_18 l1_18.length c1_18, .slice A1_19 l1_19.length c1_19] 33 (0, 0)) (by (with_reducible repeat (first | refine blk_drewN ?_ _ | refine blk_drew ?_ | refine blk_alloc ?_ _)); exact BK131.out) hb); have n2_ := Aside0.mk (below_step (by repeat (first | (with_reducible first | exact HB.out | apply below_alloc | apply pw_below_drewN | apply below_drew1 | refine below_set ?_ GE130.out | refine below_set ?_ GE131.out) | exact HB.out)) hb); clear BK130; clear BK131; clear HB; have BK130 := n0_; have BK131 := n1_; have HB := n2_; clear n0_ n1_ n2_; (try clear hb); (try clear hb2); (try clear hk); (try clear hi)))
                go_ret
                exact ⟨by first | rfl | (simp [errW_none, errW_some] <;> rfl) | (simp [*, errW_none, errW_some] <;> rfl), by repeat (first | (with_reducible first | exact HB.out | apply below_alloc | apply pw_below_drewN | apply below_drew1 | refine below_set ?_ GE130.out | refine below_set ?_ GE131.out) | exact HB.out)⟩
            · rw [if_neg c8] at H
              have c8b0 : (a0_12 == a1_12) = false := beq_eq_false_iff_ne.mpr c8
              have c8b1 : (a0_12 != a1_12) = true := bne_iff_ne.mpr c8
              obtain rfl := Option.some.inj H
              go_enter Tryd.func11, Tryd.ntmps11
              go_wp2_with (first | ((with_reducible refine gate_dst (N := 2) rfl ?_); refine box_event ?hg (N := 2) ?hd (cs := #[.int .i64 a0_0, .int .u64 a0_1, .bool a0_2, .int .u64 a0_3, .int .i64 a0_4, .bool a0_5, .int .u32 a0_6, .int .i64 a0_7, .int .i64 a0_8, .int .i64 a0_9, .int .i64 a0_10, .int .i64 a0_11, .int .i64 a0_12, .int .i64 a0_13, .int .i64 a0_14, .int .i64 a0_15, .int .i64 a0_16, .slice A0_17 l0_17.length c0_17, .slice A0_18 l0_18.length c0_18, .slice A0_19 l0_19.length c0_19]) (t := 33) ?hr ?_; (case hd => rfl); (case hg => rfl); (case hr => first | (go_simp; done) | (go_simp; rfl)); intro gb130 hg w26 hbox hb; have n0_ := Aside0.mk (below_step (by repeat (first | (with_reducible first | exact HB.out | apply below_alloc | apply pw_below_drewN | apply below_drew1) | exact HB.out)) hb); have n1_ := Aside0.mk (hbox); have n2_ := Aside0.mk ((by rw [hg]; exact (below_size (by repeat (first | (with_reducible first | exact HB.out | apply below_alloc | apply pw_below_drewN | apply below_drew1) | exact HB.out))) : w.heap.size ≤ gb130)); have n3_ := Aside0.mk ((by rw [hg]; exact (below_size (by repeat (first | (with_reducible first | exact HB.out | apply below_alloc | apply pw_below_drewN | apply below_drew1) | exact HB.out))) : w.heap.size ≤ gb130)); clear HB; have HB := n0_; have BK130 := n1_; have GW130 := n2_; have GE130 := n3_; clear n0_ n1_ n2_ n3_; clear hb hbox hg) | ((with_reducible refine gate_dst (N := 3) rfl ?_); refine box_event ?hg (N := 3) ?hd (cs := #[.int .i64 a1_0, .int .u64 a1_1, .bool a1_2, .int .u64 a1_3, .int .i64 a1_4, .bool a1_5, .int .u32 a1_6, .int .i64 a1_7, .int .i64 a1_8, .int .i64 a1_9, .int .i64 a1_10, .int .i64 a1_11, .int .i64 a1_12, .int .i64 a1_13, .int .i64 a1_14, .int .i64 a1_15, .int .i64 a1_16, .slice A1_17 l1_17.length c1_17, .slice A1_18 l1_18.length c1_18, .slice A1_19 l1_19.length c1_19]) (t := 33) ?hr ?_; (case hd => rfl); (case hg => rfl); (case hr => first | (go_simp; done) | (go_simp; rfl)); intro gb131 hg w27 hbox hb; have n0_ := Aside0.mk (blk_below (g := gb130) (o := .cells #[.int .i64 a0_0, .int .u64 a0_1, .bool a0_2, .int .u64 a0_3, .int .i64 a0_4, .bool a0_5, .int .u32 a0_6, .int .i64 a0_7, .int .i64 a0_8, .int .i64 a0_9, .int .i64 a0_10, .int .i64 a0_11, .int .i64 a0_12, .int .i64 a0_13, .int .i64 a0_14, .int .i64 a0_15, .int .i64 a0_16, .slice A0_17 l0_17.length c0_17, .slice A0_18 l0_18.length c0_18, .slice A0_19 l0_19.length c0_19] 33 (0, 0)) (by (with_reducible repeat (first | refine blk_drewN ?_ _ | refine blk_drew ?_ | refine blk_alloc ?_ _)); exact BK130.out) hb); have n1_ := Aside0.mk (below_step (by repeat (first | (with_reducible first | exact HB.out | apply below_alloc | apply pw_below_drewN | apply below_drew1 | refine below_set ?_ GE130.out) | exact HB.out)) hb); have n2_ := Aside0.mk (hbox); have n3_ := Aside0.mk ((by rw [hg]; exact (below_size (by repeat (first | (with_reducible first | exact HB.out | apply below_alloc | apply pw_below_drewN | apply below_drew1 | refine below_set ?_ GE130.out) | exact HB.out))) : w.heap.size ≤ gb131)); have n4_ := Aside0.mk ((by rw [hg]; exact (below_size (by repeat (first | (with_reducible first | exact HB.out | apply below_alloc | apply pw_below_drewN | apply below_drew1 | refine below_set ?_ GE130.out) | exact HB.out))) : w.heap.size ≤ gb131)); have n5_ := Aside0.mk ((by rw [hg]; exact Nat.ne_of_lt (blk_lt (g := gb130) (o := .cells #[.int .i64 a0_0, .int .u64 a0_1, .bool a0_2, .int .u64 a0_3, .int .i64 a0_4, .bool a0_5, .int .u32 a0_6, .int .i64 a0_7, .int .i64 a0_8, .int .i64 a0_9, .int .i64 a0_10, .int .i64 a0_11, .int .i64 a0_12, .int .i64 a0_13, .int .i64 a0_14, .int .i64 a0_15, .int .i64 a0_16, .slice A0_17 l0_17.length c0_17, .slice A0_18 l0_18.length c0_18, .slice A0_19 l0_19.length c0_19] 33 (0, 0)) (by (with_reducible repeat (first | refine blk_drewN ?_ _ | refine blk_drew ?_ | refine blk_alloc ?_ _)); exact BK130.out)) : gb130 ≠ gb131)); have n6_ := Aside0.mk ((by rw [hg]; exact Nat.ne_of_gt (blk_lt (g := gb130) (o := .cells #[.int .i64 a0_0, .int .u64 a0_1, .bool a0_2, .int .u64 a0_3, .int .i64 a0_4, .bool a0_5, .int .u32 a0_6, .int .i64 a0_7, .int .i64 a0_8, .int .i64 a0_9, .int .i64 a0_10, .int .i64 a0_11, .int .i64 a0_12, .int .i64 a0_13, .int .i64 a0_14, .int .i64 a0_15, .int .i64 a0_16, .slice A0_17 l0_17.length c0_17, .slice A0_18 l0_18.length c0_18, .slice A0_19 l0_19.length c0_19] 33 (0, 0)) (by (with_reducible repeat (first | refine blk_drewN ?_ _ | refine blk_drew ?_ | refine blk_alloc ?_ _)); exact BK130.out)) : gb131 ≠ gb130)); clear BK130; clear HB; have BK130 := n0_; have HB := n1_; have BK131 := n2_; have GW131 := n3_; have GE131 := n4_; have NB130_131 := n5_; have NB131_130 := n6_; clear n0_ n1_ n2_ n3_ n4_ n5_ n6_; clear hb hbox hg; have hnb28 := NB130_131.out; have hnc28 := NB131_130.out; have hcz29_0 : w27.cell? ⟨gb130, 0, none⟩ = some (.int .i64 a0_0) := (blk_cell BK130.out 0).trans rfl; have hcz29_1 : w27.cell? ⟨gb130, 1, none⟩ = some (.int .u64 a0_1) := (blk_cell BK130.out 1).trans rfl; have hcz29_2 : w27.cell? ⟨gb130, 2, none⟩ = some (.bool a0_2) := (blk_cell BK130.out 2).trans rfl; have hcz29_3 : w27.cell? ⟨gb130, 3, none⟩ = some (.int .u64 a0_3) := (blk_cell BK130.out 3).trans rfl; have hcz29_4 : w27.cell? ⟨gb130, 4, none⟩ = some (.int .i64 a0_4) := (blk_cell BK130.out 4).trans rfl; have hcz29_5 : w27.cell? ⟨gb130, 5, none⟩ = some (.bool a0_5) := (blk_cell BK130.out 5).trans rfl; have hcz29_6 : w27.cell? ⟨gb130, 6, none⟩ = some (.int .u32 a0_6) := (blk_cell BK130.out 6).trans rfl; have hcz29_7 : w27.cell? ⟨gb130, 7, none⟩ = some (.int .i64 a0_7) := (blk_cell BK130.out 7).trans rfl; have hcz29_8 : w27.cell? ⟨gb130, 8, none⟩ = some (.int .i64 a0_8) := (blk_cell BK130.out 8).trans rfl; have hcz29_9 : w27.cell? ⟨gb130, 9, none⟩ = some (.int .i64 a0_9) := (blk_cell BK130.out 9).trans rfl; have hcz29_10 : w27.cell? ⟨gb130, 10, none⟩ = some (.int .i64 a0_10) := (blk_cell BK130.out 10).trans rfl; have hcz29_11 : w27.cell? ⟨gb130, 11, none⟩ = some (.int .i64 a0_11) := (blk_cell BK130.out 11).trans rfl; have hcz29_12 : w27.cell? ⟨gb130, 12, none⟩ = some (.int .i64 a0_12) := (blk_cell BK130.out 12).trans rfl; have hcz29_13 : w27.cell? ⟨gb130, 13, none⟩ = some (.int .i64 a0_13) := (blk_cell BK130.out 13).trans rfl; have hcz29_14 : w27.cell? ⟨gb130, 14, none⟩ = some (.int .i64 a0_14) := (blk_cell BK130.out 14).trans rfl; have hcz29_15 : w27.cell? ⟨gb130, 15, none⟩ = some (.int .i64 a0_15) := (blk_cell BK130.out 15).trans rfl; have hcz29_16 : w27.cell? ⟨gb130, 16, none⟩ = some (.int .i64 a0_16) := (blk_cell BK130.out 16).trans rfl; have hcz29_17 : w27.cell? ⟨gb130, 17, none⟩ = some (.slice A0_17 l0_17.length c0_17) := (blk_cell BK130.out 17).trans rfl; have hcz29_18 : w27.cell? ⟨gb130, 18, none⟩ = some (.slice A0_18 l0_18.length c0_18) := (blk_cell BK130.out 18).trans rfl; have hcz29_19 : w27.cell? ⟨gb130, 19, none⟩ = some (.slice A0_19 l0_19.length c0_19) := (blk_cell BK130.out 19).trans rfl; have hfz29_0 := blk_frozen BK130.out 0; have hfz29_1 := blk_frozen BK130.out 1; have hfz29_2 := blk_frozen BK130.out 2; have hfz29_3 := blk_frozen BK130.out 3; have hfz29_4 := blk_frozen BK130.out 4; have hfz29_5 := blk_frozen BK130.out 5; have hfz29_6 := blk_frozen BK130.out 6; have hfz29_7 := blk_frozen BK130.out 7; have hfz29_8 := blk_frozen BK130.out 8; have hfz29_9 := blk_frozen BK130.out 9; have hfz29_10 := blk_frozen BK130.out 10; have hfz29_11 := blk_frozen BK130.out 11; have hfz29_12 := blk_frozen BK130.out 12; have hfz29_13 := blk_frozen BK130.out 13; have hfz29_14 := blk_frozen BK130.out 14; have hfz29_15 := blk_frozen BK130.out 15; have hfz29_16 := blk_frozen BK130.out 16; have hfz29_17 := blk_frozen BK130.out 17; have hfz29_18 := blk_frozen BK130.out 18; have hfz29_19 := blk_frozen BK130.out 19; have hcz30_0 : w27.cell? ⟨gb131, 0, none⟩ = some (.int .i64 a1_0) := (blk_cell BK131.out 0).trans rfl; have hcz30_1 : w27.cell? ⟨gb131, 1, none⟩ = some (.int .u64 a1_1) := (blk_cell BK131.out 1).trans rfl; have hcz30_2 : w27.cell? ⟨gb131, 2, none⟩ = some (.bool a1_2) := (blk_cell BK131.out 2).trans rfl; have hcz30_3 : w27.cell? ⟨gb131, 3, none⟩ = some (.int .u64 a1_3) := (blk_cell BK131.out 3).trans rfl; have hcz30_4 : w27.cell? ⟨gb131, 4, none⟩ = some (.int .i64 a1_4) := (blk_cell BK131.out 4).trans rfl; have hcz30_5 : w27.cell? ⟨gb131, 5, none⟩ = some (.bool a1_5) := (blk_cell BK131.out 5).trans rfl; have hcz30_6 : w27.cell? ⟨gb131, 6, none⟩ = some (.int .u32 a1_6) := (blk_cell BK131.out 6).trans rfl; have hcz30_7 : w27.cell? ⟨gb131, 7, none⟩ = some (.int .i64 a1_7) := (blk_cell BK131.out 7).trans rfl; have hcz30_8 : w27.cell? ⟨gb131, 8, none⟩ = some (.int .i64 a1_8) := (blk_cell BK131.out 8).trans rfl; have hcz30_9 : w27.cell? ⟨gb131, 9, none⟩ = some (.int .i64 a1_9) := (blk_cell BK131.out 9).trans rfl; have hcz30_10 : w27.cell? ⟨gb131, 10, none⟩ = some (.int .i64 a1_10) := (blk_cell BK131.out 10).trans rfl; have hcz30_11 : w27.cell? ⟨gb131, 11, none⟩ = some (.int .i64 a1_11) := (blk_cell BK131.out 11).trans rfl; have hcz30_12 : w27.cell? ⟨gb131, 12, none⟩ = some (.int .i64 a1_12) := (blk_cell BK131.out 12).trans rfl; have hcz30_13 : w27.cell? ⟨gb131, 13, none⟩ = some (.int .i64 a1_13) := (blk_cell BK131.out 13).trans rfl; have hcz30_14 : w27.cell? ⟨gb131, 14, none⟩ = some (.int .i64 a1_14) := (blk_cell BK131.out 14).trans rfl; have hcz30_15 : w27.cell? ⟨gb131, 15, none⟩ = some (.int .i64 a1_15) := (blk_cell BK131.out 15).trans rfl; have hcz30_16 : w27.cell? ⟨gb131, 16, none⟩ = some (.int .i64 a1_16) := (blk_cell BK131.out 16).trans rfl; have hcz30_17 : w27.cell? ⟨gb131, 17, none⟩ = some (.slice A1_17 l1_17.length c1_17) := (blk_cell BK131.out 17).trans rfl; have hcz30_18 : w27.cell? ⟨gb131, 18, none⟩ = some (.slice A1_18 l1_18.length c1_18) := (blk_cell BK131.out 18).trans rfl; have hcz30_19 : w27.cell? ⟨gb131, 19, none⟩ = some (.slice A1_19 l1_19.length c1_19) := (blk_cell BK131.out 19).trans rfl; have hfz30_0 := blk_frozen BK131.out 0; have hfz30_1 := blk_frozen BK131.out 1; have hfz30_2 := blk_frozen BK131.out 2; have hfz30_3 := blk_frozen BK131.out 3; have hfz30_4 := blk_frozen BK131.out 4; have hfz30_5 := blk_frozen BK131.out 5; have hfz30_6 := blk_frozen BK131.out 6; have hfz30_7 := blk_frozen BK131.out 7; have hfz30_8 := blk_frozen BK131.out 8; have hfz30_9 := blk_frozen BK131.out 9; have hfz30_10 := blk_frozen BK131.out 10; have hfz30_11 := blk_frozen BK131.out 11; have hfz30_12 := blk_frozen BK131.out 12; have hfz30_13 := blk_frozen BK131.out 13; have hfz30_14 := blk_frozen BK131.out 14; have hfz30_15 := blk_frozen BK131.out 15; have hfz30_16 := blk_frozen BK131.out 16; have hfz30_17 := blk_frozen BK131.out 17; have hfz30_18 := blk_frozen BK131.out 18; have hfz30_19 := blk_frozen BK131.out 19))
              go_ret
              exact ⟨by first | rfl | (simp [errW_none, errW_some] <;> rfl) | (simp [*, errW_none, errW_some] <;> rfl), by repeat (first | (with_reducible first | exact HB.out | apply below_alloc | apply pw_below_drewN | apply below_drew1 | refine below_set ?_ GE130.out | refine below_set ?_ GE131.out) | exact HB.out)⟩
          · rw [if_neg c7] at H
            have c7b0 : (a0_4 == a1_4 && (a0_5 == a1_5 && (a0_6 == a1_6 && ((a0_7 == a1_7 && (a0_8 == a1_8 && (a0_9 == a1_9 && (a0_10 == a1_10)))) && (a0_11 == a1_11))))) = false := by simpa using c7
            (try (have c7b1 : decide (a0_4 = a1_4 && (a0_5 == a1_5 && (a0_6 == a1_6 && ((a0_7 == a1_7 && (a0_8 == a1_8 && (a0_9 == a1_9 && (a0_10 == a1_10)))) && (a0_11 == a1_11))))) = false := by simpa using c7))
            (try (have c7b2 : (a0_4 == a1_4 && (a0_5 == a1_5 && (a0_6 == a1_6 && ((a0_7 == a1_7 && (a0_8 == a1_8 && (a0_9 == a1_9 && (a0_10 == a1_10)))) && (a0_11 == a1_11))))) = false := by simpa using c7))
            (try (have c7b3 : ¬ (a0_4 = a1_4 && (a0_5 == a1_5 && (a0_6 == a1_6 && ((a0_7 == a1_7 && (a0_8 == a1_8 && (a0_9 == a1_9 && (a0_10 == a1_10)))) && (a0_11 == a1_11))))) := by simpa using c7))
            clear c7
            obtain rfl := Option.some.inj H
            go_enter Tryd.func11, Tryd.ntmps11
            go_wp2_with (first | ((with_reducible refine gate_dst (N := 2) rfl ?_); refine box_event ?hg (N := 2) ?hd (cs := #[.int .i64 a0_0, .int .u64 a0_1, .bool a0_2, .int .u64 a0_3, .int .i64 a0_4, .bool a0_5, .int .u32 a0_6, .int .i64 a0_7, .int .i64 a0_8, .int .i64 a0_9, .int .i64 a0_10, .int .i64 a0_11, .int .i64 a0_12, .int .i64 a0_13, .int .i64 a0_14, .int .i64 a0_15, .int .i64 a0_16, .slice A0_17 l0_17.length c0_17, .slice A0_18 l0_18.length c0_18, .slice A0_19 l0_19.length c0_19]) (t := 33) ?hr ?_; (case hd => rfl); (case hg => rfl); (case hr => first | (go_simp; done) | (go_simp; rfl)); intro gb130 hg w31 hbox hb; have n0_ := Aside0.mk (below_step (by repeat (first | (with_reducible first | exact HB.out | apply below_alloc | apply pw_below_drewN | apply below_drew1) | exact HB.out)) hb); have n1_ := Aside0.mk (hbox); have n2_ := Aside0.mk ((by rw [hg]; exact (below_size (by repeat (first | (with_reducible first | exact HB.out | apply below_alloc | apply pw_below_drewN | apply below_drew1) | exact HB.out))) : w.heap.size ≤ gb130)); have n3_ := Aside0.mk ((by rw [hg]; exact (below_size (by repeat (first | (with_reducible first | exact HB.out | apply below_alloc | apply pw_below_drewN | apply below_drew1) | exact HB.out))) : w.heap.size ≤ gb130)); clear HB; have HB := n0_; have BK130 := n1_; have GW130 := n2_; have GE130 := n3_; clear n0_ n1_ n2_ n3_; clear hb hbox hg) | ((with_reducible refine gate_dst (N := 3) rfl ?_); refine box_event ?hg (N := 3) ?hd (cs := #[.int .i64 a1_0, .int .u64 a1_1, .bool a1_2, .int .u64 a1_3, .int .i64 a1_4, .bool a1_5, .int .u32 a1_6, .int .i64 a1_7, .int .i64 a1_8, .int .i64 a1_9, .int .i64 a1_10, .int .i64 a1_11, .int .i64 a1_12, .int .i64 a1_13, .int .i64 a1_14, .int .i64 a1_15, .int .i64 a1_16, .slice A1_17 l1_17.length c1_17, .slice A1_18 l1_18.length c1_18, .slice A1_19 l1_19.length c1_19]) (t := 33) ?hr ?_; (case hd => rfl); (case hg => rfl); (case hr => first | (go_simp; done) | (go_simp; rfl)); intro gb131 hg w32 hbox hb; have n0_ := Aside0.mk (blk_below (g := gb130) (o := .cells #[.int .i64 a0_0, .int .u64 a0_1, .bool a0_2, .int .u64 a0_3, .int .i64 a0_4, .bool a0_5, .int .u32 a0_6, .int .i64 a0_7, .int .i64 a0_8, .int .i64 a0_9, .int .i64 a0_10, .int .i64 a0_11, .int .i64 a0_12, .int .i64 a0_13, .int .i64 a0_14, .int .i64 a0_15, .int .i64 a0_16, .slice A0_17 l0_17.length c0_17, .slice A0_18 l0_18.length c0_18, .slice A0_19 l0_19.length c0_19] 33 (0, 0)) (by (with_reducible repeat (first | refine blk_drewN ?_ _ | refine blk_drew ?_ | refine blk_alloc ?_ _)); exact BK130.out) hb); have n1_ := Aside0.mk (below_step (by repeat (first | (with_reducible first | exact HB.out | apply below_alloc | apply pw_below_drewN | apply below_drew1 | refine below_set ?_ GE130.out) | exact HB.out)) hb); have n2_ := Aside0.mk (hbox); have n3_ := Aside0.mk ((by rw [hg]; exact (below_size (by repeat (first | (with_reducible first | exact HB.out | apply below_alloc | apply pw_below_drewN | apply below_drew1 | refine below_set ?_ GE130.out) | exact HB.out))) : w.heap.size ≤ gb131)); have n4_ := Aside0.mk ((by rw [hg]; exact (below_size (by repeat (first | (with_reducible first | exact HB.out | apply below_alloc | apply pw_below_drewN | apply below_drew1 | refine below_set ?_ GE130.out) | exact HB.out))) : w.heap.size ≤ gb131)); have n5_ := Aside0.mk ((by rw [hg]; exact Nat.ne_of_lt (blk_lt (g := gb130) (o := .cells #[.int .i64 a0_0, .int .u64 a0_1, .bool a0_2, .int .u64 a0_3, .int .i64 a0_4, .bool a0_5, .int .u32 a0_6, .int .i64 a0_7, .int .i64 a0_8, .int .i64 a0_9, .int .i64 a0_10, .int .i64 a0_11, .int .i64 a0_12, .int .i64 a0_13, .int .i64 a0_14, .int .i64 a0_15, .int .i64 a0_16, .slice A0_17 l0_17.length c0_17, .slice A0_18 l0_18.length c0_18, .slice A0_19 l0_19.length c0_19] 33 (0, 0)) (by (with_reducible repeat (first | refine blk_drewN ?_ _ | refine blk_drew ?_ | refine blk_alloc ?_ _)); exact BK130.out)) : gb130 ≠ gb131)); have n6_ := Aside0.mk ((by rw [hg]; exact Nat.ne_of_gt (blk_lt (g := gb130) (o := .cells #[.int .i64 a0_0, .int .u64 a0_1, .bool a0_2, .int .u64 a0_3, .int .i64 a0_4, .bool a0_5, .int .u32 a0_6, .int .i64 a0_7, .int .i64 a0_8, .int .i64 a0_9, .int .i64 a0_10, .int .i64 a0_11, .int .i64 a0_12, .int .i64 a0_13, .int .i64 a0_14, .int .i64 a0_15, .int .i64 a0_16, .slice A0_17 l0_17.length c0_17, .slice A0_18 l0_18.length c0_18, .slice A0_19 l0_19.length c0_19] 33 (0, 0)) (by (with_reducible repeat (first | refine blk_drewN ?_ _ | refine blk_drew ?_ | refine blk_alloc ?_ _)); exact BK130.out)) : gb131 ≠ gb130)); clear BK130; clear HB; have BK130 := n0_; have HB := n1_; have BK131 := n2_; have GW131 := n3_; have GE131 := n4_; have NB130_131 := n5_; have NB131_130 := n6_; clear n0_ n1_ n2_ n3_ n4_ n5_ n6_; clear hb hbox hg; have hnb33 := NB130_131.out; have hnc33 := NB131_130.out; have hcz34_0 : w32.cell? ⟨gb130, 0, none⟩ = some (.int .i64 a0_0) := (blk_cell BK130.out 0).trans rfl; have hcz34_1 : w32.cell? ⟨gb130, 1, none⟩ = some (.int .u64 a0_1) := (blk_cell BK130.out 1).trans rfl; have hcz34_2 : w32.cell? ⟨gb130, 2, none⟩ = some (.bool a0_2) := (blk_cell BK130.out 2).trans rfl; have hcz34_3 : w32.cell? ⟨gb130, 3, none⟩ = some (.int .u64 a0_3) := (blk_cell BK130.out 3).trans rfl; have hcz34_4 : w32.cell? ⟨gb130, 4, none⟩ = some (.int .i64 a0_4) := (blk_cell BK130.out 4).trans rfl; have hcz34_5 : w32.cell? ⟨gb130, 5, none⟩ = some (.bool a0_5) := (blk_cell BK130.out 5).trans rfl; have hcz34_6 : w32.cell? ⟨gb130, 6, none⟩ = some (.int .u32 a0_6) := (blk_cell BK130.out 6).trans rfl; have hcz34_7 : w32.cell? ⟨gb130, 7, none⟩ = some (.int .i64 a0_7) := (blk_cell BK130.out 7).trans rfl; have hcz34_8 : w32.cell? ⟨gb130, 8, none⟩ = some (.int .i64 a0_8) := (blk_cell BK130.out 8).trans rfl; have hcz34_9 : w32.cell? ⟨gb130, 9, none⟩ = some (.int .i64 a0_9) := (blk_cell BK130.out 9).trans rfl; have hcz34_10 : w32.cell? ⟨gb130, 10, none⟩ = some (.int .i64 a0_10) := (blk_cell BK130.out 10).trans rfl; have hcz34_11 : w32.cell? ⟨gb130, 11, none⟩ = some (.int .i64 a0_11) := (blk_cell BK130.out 11).trans rfl; have hcz34_12 : w32.cell? ⟨gb130, 12, none⟩ = some (.int .i64 a0_12) := (blk_cell BK130.out 12).trans rfl; have hcz34_13 : w32.cell? ⟨gb130, 13, none⟩ = some (.int .i64 a0_13) := (blk_cell BK130.out 13).trans rfl; have hcz34_14 : w32.cell? ⟨gb130, 14, none⟩ = some (.int .i64 a0_14) := (blk_cell BK130.out 14).trans rfl; have hcz34_15 : w32.cell? ⟨gb130, 15, none⟩ = some (.int .i64 a0_15) := (blk_cell BK130.out 15).trans rfl; have hcz34_16 : w32.cell? ⟨gb130, 16, none⟩ = some (.int .i64 a0_16) := (blk_cell BK130.out 16).trans rfl; have hcz34_17 : w32.cell? ⟨gb130, 17, none⟩ = some (.slice A0_17 l0_17.length c0_17) := (blk_cell BK130.out 17).trans rfl; have hcz34_18 : w32.cell? ⟨gb130, 18, none⟩ = some (.slice A0_18 l0_18.length c0_18) := (blk_cell BK130.out 18).trans rfl; have hcz34_19 : w32.cell? ⟨gb130, 19, none⟩ = some (.slice A0_19 l0_19.length c0_19) := (blk_cell BK130.out 19).trans rfl; have hfz34_0 := blk_frozen BK130.out 0; have hfz34_1 := blk_frozen BK130.out 1; have hfz34_2 := blk_frozen BK130.out 2; have hfz34_3 := blk_frozen BK130.out 3; have hfz34_4 := blk_frozen BK130.out 4; have hfz34_5 := blk_frozen BK130.out 5; have hfz34_6 := blk_frozen BK130.out 6; have hfz34_7 := blk_frozen BK130.out 7; have hfz34_8 := blk_frozen BK130.out 8; have hfz34_9 := blk_frozen BK130.out 9; have hfz34_10 := blk_frozen BK130.out 10; have hfz34_11 := blk_frozen BK130.out 11; have hfz34_12 := blk_frozen BK130.out 12; have hfz34_13 := blk_frozen BK130.out 13; have hfz34_14 := blk_frozen BK130.out 14; have hfz34_15 := blk_frozen BK130.out 15; have hfz34_16 := blk_frozen BK130.out 16; have hfz34_17 := blk_frozen BK130.out 17; have hfz34_18 := blk_frozen BK130.out 18; have hfz34_19 := blk_frozen BK130.out 19; have hcz35_0 : w32.cell? ⟨gb131, 0, none⟩ = some (.int .i64 a1_0) := (blk_cell BK131.out 0).trans rfl; have hcz35_1 : w32.cell? ⟨gb131, 1, none⟩ = some (.int .u64 a1_1) := (blk_cell BK131.out 1).trans rfl; have hcz35_2 : w32.cell? ⟨gb131, 2, none⟩ = some (.bool a1_2) := (blk_cell BK131.out 2).trans rfl; have hcz35_3 : w32.cell? ⟨gb131, 3, none⟩ = some (.int .u64 a1_3) := (blk_cell BK131.out 3).trans rfl; have hcz35_4 : w32.cell? ⟨gb131, 4, none⟩ = some (.int .i64 a1_4) := (blk_cell BK131.out 4).trans rfl; have hcz35_5 : w32.cell? ⟨gb131, 5, none⟩ = some (.bool a1_5) := (blk_cell BK131.out 5).trans rfl; have hcz35_6 : w32.cell? ⟨gb131, 6, none⟩ = some (.int .u32 a1_6) := (blk_cell BK131.out 6).trans rfl; have hcz35_7 : w32.cell? ⟨gb131, 7, none⟩ = some (.int .i64 a1_7) := (blk_cell BK131.out 7).trans rfl; have hcz35_8 : w32.cell? ⟨gb131, 8, none⟩ = some (.int .i64 a1_8) := (blk_cell BK131.out 8).trans rfl; have hcz35_9 : w32.cell? ⟨gb131, 9, none⟩ = some (.int .i64 a1_9) := (blk_cell BK131.out 9).trans rfl; have hcz35_10 : w32.cell? ⟨gb131, 10, none⟩ = some (.int .i64 a1_10) := (blk_cell BK131.out 10).trans rfl; have hcz35_11 : w32.cell? ⟨gb131, 11, none⟩ = some (.int .i64 a1_11) := (blk_cell BK131.out 11).trans rfl; have hcz35_12 : w32.cell? ⟨gb131, 12, none⟩ = some (.int .i64 a1_12) := (blk_cell BK131.out 12).trans rfl; have hcz35_13 : w32.cell? ⟨gb131, 13, none⟩ = some (.int .i64 a1_13) := (blk_cell BK131.out 13).trans rfl; have hcz35_14 : w32.cell? ⟨gb131, 14, none⟩ = some (.int .i64 a1_14) := (blk_cell BK131.out 14).trans rfl; have hcz35_15 : w32.cell? ⟨gb131, 15, none⟩ = some (.int .i64 a1_15) := (blk_cell BK131.out 15).trans rfl; have hcz35_16 : w32.cell? ⟨gb131, 16, none⟩ = some (.int .i64 a1_16) := (blk_cell BK131.out 16).trans rfl; have hcz35_17 : w32.cell? ⟨gb131, 17, none⟩ = some (.slice A1_17 l1_17.length c1_17) := (blk_cell BK131.out 17).trans rfl; have hcz35_18 : w32.cell? ⟨gb131, 18, none⟩ = some (.slice A1_18 l1_18.length c1_18) := (blk_cell BK131.out 18).trans rfl; have hcz35_19 : w32.cell? ⟨gb131, 19, none⟩ = some (.slice A1_19 l1_19.length c1_19) := (blk_cell BK131.out 19).trans rfl; have hfz35_0 := blk_frozen BK131.out 0; have hfz35_1 := blk_frozen BK131.out 1; have hfz35_2 := blk_frozen BK131.out 2; have hfz35_3 := blk_frozen BK131.out 3; have hfz35_4 := blk_frozen BK131.out 4; have hfz35_5 := blk_frozen BK131.out 5; have hfz35_6 := blk_frozen BK131.out 6; have hfz35_7 := blk_frozen BK131.out 7; have hfz35_8 := blk_frozen BK131.out 8; have hfz35_9 := blk_frozen BK131.out 9; have hfz35_10 := blk_frozen BK131.out 10; have hfz35_11 := blk_frozen BK131.out 11; have hfz35_12 := blk_frozen BK131.out 12; have hfz35_13 := blk_frozen BK131.out 13; have hfz35_14 := blk_frozen BK131.out 14; have hfz35_15 := blk_frozen BK131.out 15; have hfz35_16 := blk_frozen BK131.out 16; have hfz35_17 := blk_frozen BK131.out 17; have hfz35_18 := blk_frozen BK131.out 18; have hfz35_19 := blk_frozen BK131.out 19))
            go_ret
            exact ⟨by first | rfl | (simp [errW_none, errW_some] <;> rfl) | (simp [*, errW_none, errW_some] <;> rfl), by repeat (first | (with_reducible first | exact HB.out | apply below_alloc | apply pw_below_drewN | apply below_drew1 | refine below_set ?_ GE130.out | refine below_set ?_ GE131.out) | exact HB.out)⟩
        · rw [if_neg c6] at H
          have c6b0 : (a0_3 == a1_3) = false := beq_eq_false_iff_ne.mpr c6
          have c6b1 : (a0_3 != a1_3) = true := bne_iff_ne.mpr c6
          obtain rfl := Option.some.inj H
          go_enter Tryd.func11, Tryd.ntmps11
          go_wp2_with (first | ((with_reducible refine gate_dst (N := 2) rfl ?_); refine box_event ?hg (N := 2) ?hd (cs := #[.int .i64 a0_0, .int .u64 a0_1, .bool a0_2, .int .u64 a0_3, .int .i64 a0_4, .bool a0_5, .int .u32 a0_6, .int .i64 a0_7, .int .i64 a0_8, .int .i64 a0_9, .int .i64 a0_10, .int .i64 a0_11, .int .i64 a0_12, .int .i64 a0_13, .int .i64 a0_14, .int .i64 a0_15, .int .i64 a0_16, .slice A0_17 l0_17.length c0_17, .slice A0_18 l0_18.length c0_18, .slice A0_19 l0_19.length c0_19]) (t := 33) ?hr ?_; (case hd => rfl); (case hg => rfl); (case hr => first | (go_simp; done) | (go_simp; rfl)); intro gb130 hg w36 hbox hb; have n0_ := Aside0.mk (below_step (by repeat (first | (with_reducible first | exact HB.out | apply below_alloc | apply pw_below_drewN | apply below_drew1) | exact HB.out)) hb); have n1_ := Aside0.mk (hbox); have n2_ := Aside0.mk ((by rw [hg]; exact (below_size (by repeat (first | (with_reducible first | exact HB.out | apply below_alloc | apply pw_below_drewN | apply below_drew1) | exact HB.out))) : w.heap.size ≤ gb130)); have n3_ := Aside0.mk ((by rw [hg]; exact (below_size (by repeat (first | (with_reducible first | exact HB.out | apply below_alloc | apply pw_below_drewN | apply below_drew1) | exact HB.out))) : w.heap.size ≤ gb130)); clear HB; have HB := n0_; have BK130 := n1_; have GW130 := n2_; have GE130 := n3_; clear n0_ n1_ n2_ n3_; clear hb hbox hg) | ((with_reducible refine gate_dst (N := 3) rfl ?_); refine box_event ?hg (N := 3) ?hd (cs := #[.int .i64 a1_0, .int .u64 a1_1, .bool a1_2, .int .u64 a1_3, .int .i64 a1_4, .bool a1_5, .int .u32 a1_6, .int .i64 a1_7, .int .i64 a1_8, .int .i64 a1_9, .int .i64 a1_10, .int .i64 a1_11, .int .i64 a1_12, .int .i64 a1_13, .int .i64 a1_14, .int .i64 a1_15, .int .i64 a1_16, .slice A1_17 l1_17.length c1_17, .slice A1_18 l1_18.length c1_18, .slice A1_19 l1_19.length c1_19]) (t := 33) ?hr ?_; (case hd => rfl); (case hg => rfl); (case hr => first | (go_simp; done) | (go_simp; rfl)); intro gb131 hg w37 hbox hb; have n0_ := Aside0.mk (blk_below (g := gb130) (o := .cells #[.int .i64 a0_0, .int .u64 a0_1, .bool a0_2, .int .u64 a0_3, .int .i64 a0_4, .bool a0_5, .int .u32 a0_6, .int .i64 a0_7, .int .i64 a0_8, .int .i64 a0_9, .int .i64 a0_10, .int .i64 a0_11, .int .i64 a0_12, .int .i64 a0_13, .int .i64 a0_14, .int .i64 a0_15, .int .i64 a0_16, .slice A0_17 l0_17.length c0_17, .slice A0_18 l0_18.length c0_18, .slice A0_19 l0_19.length c0_19] 33 (0, 0)) (by (with_reducible repeat (first | refine blk_drewN ?_ _ | refine blk_drew ?_ | refine blk_alloc ?_ _)); exact BK130.out) hb); have n1_ := Aside0.mk (below_step (by repeat (first | (with_reducible first | exact HB.out | apply below_alloc | apply pw_below_drewN | apply below_drew1 | refine below_set ?_ GE130.out) | exact HB.out)) hb); have n2_ := Aside0.mk (hbox); have n3_ := Aside0.mk ((by rw [hg]; exact (below_size (by repeat (first | (with_reducible first | exact HB.out | apply below_alloc | apply pw_below_drewN | apply below_drew1 | refine below_set ?_ GE130.out) | exact HB.out))) : w.heap.size ≤ gb131)); have n4_ := Aside0.mk ((by rw [hg]; exact (below_size (by repeat (first | (with_reducible first | exact HB.out | apply below_alloc | apply pw_below_drewN | apply below_drew1 | refine below_set ?_ GE130.out) | exact HB.out))) : w.heap.size ≤ gb131)); have n5_ := Aside0.mk ((by rw [hg]; exact Nat.ne_of_lt (blk_lt (g := gb130) (o := .cells #[.int .i64 a0_0, .int .u64 a0_1, .bool a0_2, .int .u64 a0_3, .int .i64 a0_4, .bool a0_5, .int .u32 a0_6, .int .i64 a0_7, .int .i64 a0_8, .int .i64 a0_9, .int .i64 a0_10, .int .i64 a0_11, .int .i64 a0_12, .int .i64 a0_13, .int .i64 a0_14, .int .i64 a0_15, .int .i64 a0_16, .slice A0_17 l0_17.length c0_17, .slice A0_18 l0_18.length c0_18, .slice A0_19 l0_19.length c0_19] 33 (0, 0)) (by (with_reducible repeat (first | refine blk_drewN ?_ _ | refine blk_drew ?_ | refine blk_alloc ?_ _)); exact BK130.out)) : gb130 ≠ gb131)); have n6_ := Aside0.mk ((by rw [hg]; exact Nat.ne_of_gt (blk_lt (g := gb130) (o := .cells #[.int .i64 a0_0, .int .u64 a0_1, .bool a0_2, .int .u64 a0_3, .int .i64 a0_4, .bool a0_5, .int .u32 a0_6, .int .i64 a0_7, .int .i64 a0_8, .int .i64 a0_9, .int .i64 a0_10, .int .i64 a0_11, .int .i64 a0_12, .int .i64 a0_13, .int .i64 a0_14, .int .i64 a0_15, .int .i64 a0_16, .slice A0_17 l0_17.length c0_17, .slice A0_18 l0_18.length c0_18, .slice A0_19 l0_19.length c0_19] 33 (0, 0)) (by (with_reducible repeat (first | refine blk_drewN ?_ _ | refine blk_drew ?_ | refine blk_alloc ?_ _)); exact BK130.out)) : gb131 ≠ gb130)); clear BK130; clear HB; have BK130 := n0_; have HB := n1_; have BK131 := n2_; have GW131 := n3_; have GE131 := n4_; have NB130_131 := n5_; have NB131_130 := n6_; clear n0_ n1_ n2_ n3_ n4_ n5_ n6_; clear hb hbox hg; have hnb38 := NB130_131.out; have hnc38 := NB131_130.out; have hcz39_0 : w37.cell? ⟨gb130, 0, none⟩ = some (.int .i64 a0_0) := (blk_cell BK130.out 0).trans rfl; have hcz39_1 : w37.cell? ⟨gb130, 1, none⟩ = some (.int .u64 a0_1) := (blk_cell BK130.out 1).trans rfl; have hcz39_2 : w37.cell? ⟨gb130, 2, none⟩ = some (.bool a0_2) := (blk_cell BK130.out 2).trans rfl; have hcz39_3 : w37.cell? ⟨gb130, 3, none⟩ = some (.int .u64 a0_3) := (blk_cell BK130.out 3).trans rfl; have hcz39_4 : w37.cell? ⟨gb130, 4, none⟩ = some (.int .i64 a0_4) := (blk_cell BK130.out 4).trans rfl; have hcz39_5 : w37.cell? ⟨gb130, 5, none⟩ = some (.bool a0_5) := (blk_cell BK130.out 5).trans rfl; have hcz39_6 : w37.cell? ⟨gb130, 6, none⟩ = some (.int .u32 a0_6) := (blk_cell BK130.out 6).trans rfl; have hcz39_7 : w37.cell? ⟨gb130, 7, none⟩ = some (.int .i64 a0_7) := (blk_cell BK130.out 7).trans rfl; have hcz39_8 : w37.cell? ⟨gb130, 8, none⟩ = some (.int .i64 a0_8) := (blk_cell BK130.out 8).trans rfl; have hcz39_9 : w37.cell? ⟨gb130, 9, none⟩ = some (.int .i64 a0_9) := (blk_cell BK130.out 9).trans rfl; have hcz39_10 : w37.cell? ⟨gb130, 10, none⟩ = some (.int .i64 a0_10) := (blk_cell BK130.out 10).trans rfl; have hcz39_11 : w37.cell? ⟨gb130, 11, none⟩ = some (.int .i64 a0_11) := (blk_cell BK130.out 11).trans rfl; have hcz39_12 : w37.cell? ⟨gb130, 12, none⟩ = some (.int .i64 a0_12) := (blk_cell BK130.out 12).trans rfl; have hcz39_13 : w37.cell? ⟨gb130, 13, none⟩ = some (.int .i64 a0_13) := (blk_cell BK130.out 13).trans rfl; have hcz39_14 : w37.cell? ⟨gb130, 14, none⟩ = some (.int .i64 a0_14) := (blk_cell BK130.out 14).trans rfl; have hcz39_15 : w37.cell? ⟨gb130, 15, none⟩ = some (.int .i64 a0_15) := (blk_cell BK130.out 15).trans rfl; have hcz39_16 : w37.cell? ⟨gb130, 16, none⟩ = some (.int .i64 a0_16) := (blk_cell BK130.out 16).trans rfl; have hcz39_17 : w37.cell? ⟨gb130, 17, none⟩ = some (.slice A0_17 l0_17.length c0_17) := (blk_cell BK130.out 17).trans rfl; have hcz39_18 : w37.cell? ⟨gb130, 18, none⟩ = some (.slice A0_18 l0_18.length c0_18) := (blk_cell BK130.out 18).trans rfl; have hcz39_19 : w37.cell? ⟨gb130, 19, none⟩ = some (.slice A0_19 l0_19.length c0_19) := (blk_cell BK130.out 19).trans rfl; have hfz39_0 := blk_frozen BK130.out 0; have hfz39_1 := blk_frozen BK130.out 1; have hfz39_2 := blk_frozen BK130.out 2; have hfz39_3 := blk_frozen BK130.out 3; have hfz39_4 := blk_frozen BK130.out 4; have hfz39_5 := blk_frozen BK130.out 5; have hfz39_6 := blk_frozen BK130.out 6; have hfz39_7 := blk_frozen BK130.out 7; have hfz39_8 := blk_frozen BK130.out 8; have hfz39_9 := blk_frozen BK130.out 9; have hfz39_10 := blk_frozen BK130.out 10; have hfz39_11 := blk_frozen BK130.out 11; have hfz39_12 := blk_frozen BK130.out 12; have hfz39_13 := blk_frozen BK130.out 13; have hfz39_14 := blk_frozen BK130.out 14; have hfz39_15 := blk_frozen BK130.out 15; have hfz39_16 := blk_frozen BK130.out 16; have hfz39_17 := blk_frozen BK130.out 17; have hfz39_18 := blk_frozen BK130.out 18; have hfz39_19 := blk_frozen BK130.out 19; have hcz40_0 : w37.cell? ⟨gb131, 0, none⟩ = some (.int .i64 a1_0) := (blk_cell BK131.out 0).trans rfl; have hcz40_1 : w37.cell? ⟨gb131, 1, none⟩ = some (.int .u64 a1_1) := (blk_cell BK131.out 1).trans rfl; have hcz40_2 : w37.cell? ⟨gb131, 2, none⟩ = some (.bool a1_2) := (blk_cell BK131.out 2).trans rfl; have hcz40_3 : w37.cell? ⟨gb131, 3, none⟩ = some (.int .u64 a1_3) := (blk_cell BK131.out 3).trans rfl; have hcz40_4 : w37.cell? ⟨gb131, 4, none⟩ = some (.int .i64 a1_4) := (blk_cell BK131.out 4).trans rfl; have hcz40_5 : w37.cell? ⟨gb131, 5, none⟩ = some (.bool a1_5) := (blk_cell BK131.out 5).trans rfl; have hcz40_6 : w37.cell? ⟨gb131, 6, none⟩ = some (.int .u32 a1_6) := (blk_cell BK131.out 6).trans rfl; have hcz40_7 : w37.cell? ⟨gb131, 7, none⟩ = some (.int .i64 a1_7) := (blk_cell BK131.out 7).trans rfl; have hcz40_8 : w37.cell? ⟨gb131, 8, none⟩ = some (.int .i64 a1_8) := (blk_cell BK131.out 8).trans rfl; have hcz40_9 : w37.cell? ⟨gb131, 9, none⟩ = some (.int .i64 a1_9) := (blk_cell BK131.out 9).trans rfl; have hcz40_10 : w37.cell? ⟨gb131, 10, none⟩ = some (.int .i64 a1_10) := (blk_cell BK131.out 10).trans rfl; have hcz40_11 : w37.cell? ⟨gb131, 11, none⟩ = some (.int .i64 a1_11) := (blk_cell BK131.out 11).trans rfl; have hcz40_12 : w37.cell? ⟨gb131, 12, none⟩ = some (.int .i64 a1_12) := (blk_cell BK131.out 12).trans rfl; have hcz40_13 : w37.cell? ⟨gb131, 13, none⟩ = some (.int .i64 a1_13) := (blk_cell BK131.out 13).trans rfl; have hcz40_14 : w37.cell? ⟨gb131, 14, none⟩ = some (.int .i64 a1_14) := (blk_cell BK131.out 14).trans rfl; have hcz40_15 : w37.cell? ⟨gb131, 15, none⟩ = some (.int .i64 a1_15) := (blk_cell BK131.out 15).trans rfl; have hcz40_16 : w37.cell? ⟨gb131, 16, none⟩ = some (.int .i64 a1_16) := (blk_cell BK131.out 16).trans rfl; have hcz40_17 : w37.cell? ⟨gb131, 17, none⟩ = some (.slice A1_17 l1_17.length c1_17) := (blk_cell BK131.out 17).trans rfl; have hcz40_18 : w37.cell? ⟨gb131, 18, none⟩ = some (.slice A1_18 l1_18.length c1_18) := (blk_cell BK131.out 18).trans rfl; have hcz40_19 : w37.cell? ⟨gb131, 19, none⟩ = some (.slice A1_19 l1_19.length c1_19) := (blk_cell BK131.out 19).trans rfl; have hfz40_0 := blk_frozen BK131.out 0; have hfz40_1 := blk_frozen BK131.out 1; have hfz40_2 := blk_frozen BK131.out 2; have hfz40_3 := blk_frozen BK131.out 3; have hfz40_4 := blk_frozen BK131.out 4; have hfz40_5 := blk_frozen BK131.out 5; have hfz40_6 := blk_frozen BK131.out 6; have hfz40_7 := blk_frozen BK131.out 7; have hfz40_8 := blk_frozen BK131.out 8; have hfz40_9 := blk_frozen BK131.out 9; have hfz40_10 := blk_frozen BK131.out 10; have hfz40_11 := blk_frozen BK131.out 11; have hfz40_12 := blk_frozen BK131.out 12; have hfz40_13 := blk_frozen BK131.out 13; have hfz40_14 := blk_frozen BK131.out 14; have hfz40_15 := blk_frozen BK131.out 15; have hfz40_16 := blk_frozen BK131.out 16; have hfz40_17 := blk_frozen BK131.out 17; have hfz40_18 := blk_frozen BK131.out 18; have hfz40_19 := blk_frozen BK131.out 19))
          go_ret
          exact ⟨by first | rfl | (simp [errW_none, errW_some] <;> rfl) | (simp [*, errW_none, errW_some] <;> rfl), by repeat (first | (with_reducible first | exact HB.out | apply below_alloc | apply pw_below_drewN | apply below_drew1 | refine below_set ?_ GE130.out | refine below_set ?_ GE131.out) | exact HB.out)⟩
      · rw [if_neg c5] at H
        have c5b0 : (a0_2 == a1_2) = false := by simpa using c5
        (try (have c5b1 : decide (a0_2 = a1_2) = false := by simpa using c5))
        (try (have c5b2 : (a0_2 == a1_2) = false := by simpa using c5))
        (try (have c5b3 : ¬ (a0_2 = a1_2) := by simpa using c5))
        clear c5
        obtain rfl := Option.some.inj H
        go_enter Tryd.func11, Tryd.ntmps11
        go_wp2_with (first | ((with_reducible refine gate_dst (N := 2) rfl ?_); refine box_event ?hg (N := 2) ?hd (cs := #[.int .i64 a0_0, .int .u64 a0_1, .bool a0_2, .int .u64 a0_3, .int .i64 a0_4, .bool a0_5, .int .u32 a0_6, .int .i64 a0_7, .int .i64 a0_8, .int .i64 a0_9, .int .i64 a0_10, .int .i64 a0_11, .int .i64 a0_12, .int .i64 a0_13, .int .i64 a0_14, .int .i64 a0_15, .int .i64 a0_16, .slice A0_17 l0_17.length c0_17, .slice A0_18 l0_18.length c0_18, .slice A0_19 l0_19.length c0_19]) (t := 33) ?hr ?_; (case hd => rfl); (case hg => rfl); (case hr => first | (go_simp; done) | (go_simp; rfl)); intro gb130 hg w41 hbox hb; have n0_ := Aside0.mk (below_step (by repeat (first | (with_reducible first | exact HB.out | apply below_alloc | apply pw_below_drewN | apply below_drew1) | exact HB.out)) hb); have n1_ := Aside0.mk (hbox); have n2_ := Aside0.mk ((by rw [hg]; exact (below_size (by repeat (first | (with_reducible first | exact HB.out | apply below_alloc | apply pw_below_drewN | apply below_drew1) | exact HB.out))) : w.heap.size ≤ gb130)); have n3_ := Aside0.mk ((by rw [hg]; exact (below_size (by repeat (first | (with_reducible first | exact HB.out | apply below_alloc | apply pw_below_drewN | apply below_drew1) | exact HB.out))) : w.heap.size ≤ gb130)); clear HB; have HB := n0_; have BK130 := n1_; have GW130 := n2_; have GE130 := n3_; clear n0_ n1_ n2_ n3_; clear hb hbox hg) | ((with_reducible refine gate_dst (N := 3) rfl ?_); refine box_event ?hg (N := 3) ?hd (cs := #[.int .i64 a1_0, .int .u64 a1_1, .bool a1_2, .int .u64 a1_3, .int .i64 a1_4, .bool a1_5, .int .u32 a1_6, .int .i64 a1_7, .int .i64 a1_8, .int .i64 a1_9, .int .i64 a1_10, .int .i64 a1_11, .int .i64 a1_12, .int .i64 a1_13, .int .i64 a1_14, .int .i64 a1_15, .int .i64 a1_16, .slice A1_17 l1_17.length c1_17, .slice A1_18 l1_18.length c1_18, .slice A1_19 l1_19.length c1_19]) (t := 33) ?hr ?_; (case hd => rfl); (case hg => rfl); (case hr => first | (go_simp; done) | (go_simp; rfl)); intro gb131 hg w42 hbox hb; have n0_ := Aside0.mk (blk_below (g := gb130) (o := .cells #[.int .i64 a0_0, .int .u64 a0_1, .bool a0_2, .int .u64 a0_3, .int .i64 a0_4, .bool a0_5, .int .u32 a0_6, .int .i64 a0_7, .int .i64 a0_8, .int .i64 a0_9, .int .i64 a0_10, .int .i64 a0_11, .int .i64 a0_12, .int .i64 a0_13, .int .i64 a0_14, .int .i64 a0_15, .int .i64 a0_16, .slice A0_17 l0_17.length c0_17, .slice A0_18 l0_18.length c0_18, .slice A0_19 l0_19.length c0_19] 33 (0, 0)) (by (with_reducible repeat (first | refine blk_drewN ?_ _ | refine blk_drew ?_ | refine blk_alloc ?_ _)); exact BK130.out) hb); have n1_ := Aside0.mk (below_step (by repeat (first | (with_reducible first | exact HB.out | apply below_alloc | apply pw_below_drewN | apply below_drew1 | refine below_set ?_ GE130.out) | exact HB.out)) hb); have n2_ := Aside0.mk (hbox); have n3_ := Aside0.mk ((by rw [hg]; exact (below_size (by repeat (first | (with_reducible first | exact HB.out | apply below_alloc | apply pw_below_drewN | apply below_drew1 | refine below_set ?_ GE130.out) | exact HB.out))) : w.heap.size ≤ gb131)); have n4_ := Aside0.mk ((by rw [hg]; exact (below_size (by repeat (first | (with_reducible first | exact HB.out | apply below_alloc | apply pw_below_drewN | apply below_drew1 | refine below_set ?_ GE130.out) | exact HB.out))) : w.heap.size ≤ gb131)); have n5_ := Aside0.mk ((by rw [hg]; exact Nat.ne_of_lt (blk_lt (g := gb130) (o := .cells #[.int .i64 a0_0, .int .u64 a0_1, .bool a0_2, .int .u64 a0_3, .int .i64 a0_4, .bool a0_5, .int .u32 a0_6, .int .i64 a0_7, .int .i64 a0_8, .int .i64 a0_9, .int .i64 a0_10, .int .i64 a0_11, .int .i64 a0_12, .int .i64 a0_13, .int .i64 a0_14, .int .i64 a0_15, .int .i64 a0_16, .slice A0_17 l0_17.length c0_17, .slice A0_18 l0_18.length c0_18, .slice A0_19 l0_19.length c0_19] 33 (0, 0)) (by (with_reducible repeat (first | refine blk_drewN ?_ _ | refine blk_drew ?_ | refine blk_alloc ?_ _)); exact BK130.out)) : gb130 ≠ gb131)); have n6_ := Aside0.mk ((by rw [hg]; exact Nat.ne_of_gt (blk_lt (g := gb130) (o := .cells #[.int .i64 a0_0, .int .u64 a0_1, .bool a0_2, .int .u64 a0_3, .int .i64 a0_4, .bool a0_5, .int .u32 a0_6, .int .i64 a0_7, .int .i64 a0_8, .int .i64 a0_9, .int .i64 a0_10, .int .i64 a0_11, .int .i64 a0_12, .int .i64 a0_13, .int .i64 a0_14, .int .i64 a0_15, .int .i64 a0_16, .slice A0_17 l0_17.length c0_17, .slice A0_18 l0_18.length c0_18, .slice A0_19 l0_19.length c0_19] 33 (0, 0)) (by (with_reducible repeat (first | refine blk_drewN ?_ _ | refine blk_drew ?_ | refine blk_alloc ?_ _)); exact BK130.out)) : gb131 ≠ gb130)); clear BK130; clear HB; have BK130 := n0_; have HB := n1_; have BK131 := n2_; have GW131 := n3_; have GE131 := n4_; have NB130_131 := n5_; have NB131_130 := n6_; clear n0_ n1_ n2_ n3_ n4_ n5_ n6_; clear hb hbox hg; have hnb43 := NB130_131.out; have hnc43 := NB131_130.out; have hcz44_0 : w42.cell? ⟨gb130, 0, none⟩ = some (.int .i64 a0_0) := (blk_cell BK130.out 0).trans rfl; have hcz44_1 : w42.cell? ⟨gb130, 1, none⟩ = some (.int .u64 a0_1) := (blk_cell BK130.out 1).trans rfl; have hcz44_2 : w42.cell? ⟨gb130, 2, none⟩ = some (.bool a0_2) := (blk_cell BK130.out 2).trans rfl; have hcz44_3 : w42.cell? ⟨gb130, 3, none⟩ = some (.int .u64 a0_3) := (blk_cell BK130.out 3).trans rfl; have hcz44_4 : w42.cell? ⟨gb130, 4, none⟩ = some (.int .i64 a0_4) := (blk_cell BK130.out 4).trans rfl; have hcz44_5 : w42.cell? ⟨gb130, 5, none⟩ = some (.bool a0_5) := (blk_cell BK130.out 5).trans rfl; have hcz44_6 : w42.cell? ⟨gb130, 6, none⟩ = some (.int .u32 a0_6) := (blk_cell BK130.out 6).trans rfl; have hcz44_7 : w42.cell? ⟨gb130, 7, none⟩ = some (.int .i64 a0_7) := (blk_cell BK130.out 7).trans rfl; have hcz44_8 : w42.cell? ⟨gb130, 8, none⟩ = some (.int .i64 a0_8) := (blk_cell BK130.out 8).trans rfl; have hcz44_9 : w42.cell? ⟨gb130, 9, none⟩ = some (.int .i64 a0_9) := (blk_cell BK130.out 9).trans rfl; have hcz44_10 : w42.cell? ⟨gb130, 10, none⟩ = some (.int .i64 a0_10) := (blk_cell BK130.out 10).trans rfl; have hcz44_11 : w42.cell? ⟨gb130, 11, none⟩ = some (.int .i64 a0_11) := (blk_cell BK130.out 11).trans rfl; have hcz44_12 : w42.cell? ⟨gb130, 12, none⟩ = some (.int .i64 a0_12) := (blk_cell BK130.out 12).trans rfl; have hcz44_13 : w42.cell? ⟨gb130, 13, none⟩ = some (.int .i64 a0_13) := (blk_cell BK130.out 13).trans rfl; have hcz44_14 : w42.cell? ⟨gb130, 14, none⟩ = some (.int .i64 a0_14) := (blk_cell BK130.out 14).trans rfl; have hcz44_15 : w42.cell? ⟨gb130, 15, none⟩ = some (.int .i64 a0_15) := (blk_cell BK130.out 15).trans rfl; have hcz44_16 : w42.cell? ⟨gb130, 16, none⟩ = some (.int .i64 a0_16) := (blk_cell BK130.out 16).trans rfl; have hcz44_17 : w42.cell? ⟨gb130, 17, none⟩ = some (.slice A0_17 l0_17.length c0_17) := (blk_cell BK130.out 17).trans rfl; have hcz44_18 : w42.cell? ⟨gb130, 18, none⟩ = some (.slice A0_18 l0_18.length c0_18) := (blk_cell BK130.out 18).trans rfl; have hcz44_19 : w42.cell? ⟨gb130, 19, none⟩ = some (.slice A0_19 l0_19.length c0_19) := (blk_cell BK130.out 19).trans rfl; have hfz44_0 := blk_frozen BK130.out 0; have hfz44_1 := blk_frozen BK130.out 1; have hfz44_2 := blk_frozen BK130.out 2; have hfz44_3 := blk_frozen BK130.out 3; have hfz44_4 := blk_frozen BK130.out 4; have hfz44_5 := blk_frozen BK130.out 5; have hfz44_6 := blk_frozen BK130.out 6; have hfz44_7 := blk_frozen BK130.out 7; have hfz44_8 := blk_frozen BK130.out 8; have hfz44_9 := blk_frozen BK130.out 9; have hfz44_10 := blk_frozen BK130.out 10; have hfz44_11 := blk_frozen BK130.out 11; have hfz44_12 := blk_frozen BK130.out 12; have hfz44_13 := blk_frozen BK130.out 13; have hfz44_14 := blk_frozen BK130.out 14; have hfz44_15 := blk_frozen BK130.out 15; have hfz44_16 := blk_frozen BK130.out 16; have hfz44_17 := blk_frozen BK130.out 17; have hfz44_18 := blk_frozen BK130.out 18; have hfz44_19 := blk_frozen BK130.out 19; have hcz45_0 : w42.cell? ⟨gb131, 0, none⟩ = some (.int .i64 a1_0) := (blk_cell BK131.out 0).trans rfl; have hcz45_1 : w42.cell? ⟨gb131, 1, none⟩ = some (.int .u64 a1_1) := (blk_cell BK131.out 1).trans rfl; have hcz45_2 : w42.cell? ⟨gb131, 2, none⟩ = some (.bool a1_2) := (blk_cell BK131.out 2).trans rfl; have hcz45_3 : w42.cell? ⟨gb131, 3, none⟩ = some (.int .u64 a1_3) := (blk_cell BK131.out 3).trans rfl; have hcz45_4 : w42.cell? ⟨gb131, 4, none⟩ = some (.int .i64 a1_4) := (blk_cell BK131.out 4).trans rfl; have hcz45_5 : w42.cell? ⟨gb131, 5, none⟩ = some (.bool a1_5) := (blk_cell BK131.out 5).trans rfl; have hcz45_6 : w42.cell? ⟨gb131, 6, none⟩ = some (.int .u32 a1_6) := (blk_cell BK131.out 6).trans rfl; have hcz45_7 : w42.cell? ⟨gb131, 7, none⟩ = some (.int .i64 a1_7) := (blk_cell BK131.out 7).trans rfl; have hcz45_8 : w42.cell? ⟨gb131, 8, none⟩ = some (.int .i64 a1_8) := (blk_cell BK131.out 8).trans rfl; have hcz45_9 : w42.cell? ⟨gb131, 9, none⟩ = some (.int .i64 a1_9) := (blk_cell BK131.out 9).trans rfl; have hcz45_10 : w42.cell? ⟨gb131, 10, none⟩ = some (.int .i64 a1_10) := (blk_cell BK131.out 10).trans rfl; have hcz45_11 : w42.cell? ⟨gb131, 11, none⟩ = some (.int .i64 a1_11) := (blk_cell BK131.out 11).trans rfl; have hcz45_12 : w42.cell? ⟨gb131, 12, none⟩ = some (.int .i64 a1_12) := (blk_cell BK131.out 12).trans rfl; have hcz45_13 : w42.cell? ⟨gb131, 13, none⟩ = some (.int .i64 a1_13) := (blk_cell BK131.out 13).trans rfl; have hcz45_14 : w42.cell? ⟨gb131, 14, none⟩ = some (.int .i64 a1_14) := (blk_cell BK131.out 14).trans rfl; have hcz45_15 : w42.cell? ⟨gb131, 15, none⟩ = some (.int .i64 a1_15) := (blk_cell BK131.out 15).trans rfl; have hcz45_16 : w42.cell? ⟨gb131, 16, none⟩ = some (.int .i64 a1_16) := (blk_cell BK131.out 16).trans rfl; have hcz45_17 : w42.cell? ⟨gb131, 17, none⟩ = some (.slice A1_17 l1_17.length c1_17) := (blk_cell BK131.out 17).trans rfl; have hcz45_18 : w42.cell? ⟨gb131, 18, none⟩ = some (.slice A1_18 l1_18.length c1_18) := (blk_cell BK131.out 18).trans rfl; have hcz45_19 : w42.cell? ⟨gb131, 19, none⟩ = some (.slice A1_19 l1_19.length c1_19) := (blk_cell BK131.out 19).trans rfl; have hfz45_0 := blk_frozen BK131.out 0; have hfz45_1 := blk_frozen BK131.out 1; have hfz45_2 := blk_frozen BK131.out 2; have hfz45_3 := blk_frozen BK131.out 3; have hfz45_4 := blk_frozen BK131.out 4; have hfz45_5 := blk_frozen BK131.out 5; have hfz45_6 := blk_frozen BK131.out 6; have hfz45_7 := blk_frozen BK131.out 7; have hfz45_8 := blk_frozen BK131.out 8; have hfz45_9 := blk_frozen BK131.out 9; have hfz45_10 := blk_frozen BK131.out 10; have hfz45_11 := blk_frozen BK131.out 11; have hfz45_12 := blk_frozen BK131.out 12; have hfz45_13 := blk_frozen BK131.out 13; have hfz45_14 := blk_frozen BK131.out 14; have hfz45_15 := blk_frozen BK131.out 15; have hfz45_16 := blk_frozen BK131.out 16; have hfz45_17 := blk_frozen BK131.out 17; have hfz45_18 := blk_frozen BK131.out 18; have hfz45_19 := blk_frozen BK131.out 19))
        go_ret
        exact ⟨by first | rfl | (simp [errW_none, errW_some] <;> rfl) | (simp [*, errW_none, errW_some] <;> rfl), by repeat (first | (with_reducible first | exact HB.out | apply below_alloc | apply pw_below_drewN | apply below_drew1 | refine below_set ?_ GE130.out | refine below_set ?_ GE131.out) | exact HB.out)⟩
    · rw [if_neg c4] at H
      have c4b0 : (a0_1 == a1_1) = false := beq_eq_false_iff_ne.mpr c4
      have c4b1 : (a0_1 != a1_1) = true := bne_iff_ne.mpr c4
      obtain rfl := Option.some.inj H
      go_enter Tryd.func11, Tryd.ntmps11
      go_wp2_with (first | ((with_reducible refine gate_dst (N := 2) rfl ?_); refine box_event ?hg (N := 2) ?hd (cs := #[.int .i64 a0_0, .int .u64 a0_1, .bool a0_2, .int .u64 a0_3, .int .i64 a0_4, .bool a0_5, .int .u32 a0_6, .int .i64 a0_7, .int .i64 a0_8, .int .i64 a0_9, .int .i64 a0_10, .int .i64 a0_11, .int .i64 a0_12, .int .i64 a0_13, .int .i64 a0_14, .int .i64 a0_15, .int .i64 a0_16, .slice A0_17 l0_17.length c0_17, .slice A0_18 l0_18.length c0_18, .slice A0_19 l0_19.length c0_19]) (t := 33) ?hr ?_; (case hd => rfl); (case hg => rfl); (case hr => first | (go_simp; done) | (go_simp; rfl)); intro gb130 hg w46 hbox hb; have n0_ := Aside0.mk (below_step (by repeat (first | (with_reducible first | exact HB.out | apply below_alloc | apply pw_below_drewN | apply below_drew1) | exact HB.out)) hb); have n1_ := Aside0.mk (hbox); have n2_ := Aside0.mk ((by rw [hg]; exact (below_size (by repeat (first | (with_reducible first | exact HB.out | apply below_alloc | apply pw_below_drewN | apply below_drew1) | exact HB.out))) : w.heap.size ≤ gb130)); have n3_ := Aside0.mk ((by rw [hg]; exact (below_size (by repeat (first | (with_reducible first | exact HB.out | apply below_alloc | apply pw_below_drewN | apply below_drew1) | exact HB.out))) : w.heap.size ≤ gb130)); clear HB; have HB := n0_; have BK130 := n1_; have GW130 := n2_; have GE130 := n3_; clear n0_ n1_ n2_ n3_; clear hb hbox hg) | ((with_reducible refine gate_dst (N := 3) rfl ?_); refine box_event ?hg (N := 3) ?hd (cs := #[.int .i64 a1_0, .int .u64 a1_1, .bool a1_2, .int .u64 a1_3, .int .i64 a1_4, .bool a1_5, .int .u32 a1_6, .int .i64 a1_7, .int .i64 a1_8, .int .i64 a1_9, .int .i64 a1_10, .int .i64 a1_11, .int .i64 a1_12, .int .i64 a1_13, .int .i64 a1_14, .int .i64 a1_15, .int .i64 a1_16, .slice A1_17 l1_17.length c1_17, .slice A1_18 l1_18.length c1_18, .slice A1_19 l1_19.length c1_19]) (t := 33) ?hr ?_; (case hd => rfl); (case hg => rfl); (case hr => first | (go_simp; done) | (go_simp; rfl)); intro gb131 hg w47 hbox hb; have n0_ := Aside0.mk (blk_below (g := gb130) (o := .cells #[.int .i64 a0_0, .int .u64 a0_1, .bool a0_2, .int .u64 a0_3, .int .i64 a0_4, .bool a0_5, .int .u32 a0_6, .int .i64 a0_7, .int .i64 a0_8, .int .i64 a0_9, .int .i64 a0_10, .int .i64 a0_11, .int .i64 a0_12, .int .i64 a0_13, .int .i64 a0_14, .int .i64 a0_15, .int .i64 a0_16, .slice A0_17 l0_17.length c0_17, .slice A0_18 l0_18.length c0_18, .slice A0_19 l0_19.length c0_19] 33 (0, 0)) (by (with_reducible repeat (first | refine blk_drewN ?_ _ | refine blk_drew ?_ | refine blk_alloc ?_ _)); exact BK130.out) hb); have n1_ := Aside0.mk (below_step (by repeat (first | (with_reducible first | exact HB.out | apply below_alloc | apply pw_below_drewN | apply below_drew1 | refine below_set ?_ GE130.out) | exact HB.out)) hb); have n2_ := Aside0.mk (hbox); have n3_ := Aside0.mk ((by rw [hg]; exact (below_size (by repeat (first | (with_reducible first | exact HB.out | apply below_alloc | apply pw_below_drewN | apply below_drew1 | refine below_set ?_ GE130.out) | exact HB.out))) : w.heap.size ≤ gb131)); have n4_ := Aside0.mk ((by rw [hg]; exact (below_size (by repeat (first | (with_reducible first | exact HB.out | apply below_alloc | apply pw_below_drewN | apply below_drew1 | refine below_set ?_ GE130.out) | exact HB.out))) : w.heap.size ≤ gb131)); have n5_ := Aside0.mk ((by rw [hg]; exact Nat.ne_of_lt (blk_lt (g := gb130) (o := .cells #[.int .i64 a0_0, .int .u64 a0_1, .bool a0_2, .int .u64 a0_3, .int .i64 a0_4, .bool a0_5, .int .u32 a0_6, .int .i64 a0_7, .int .i64 a0_8, .int .i64 a0_9, .int .i64 a0_10, .int .i64 a0_11, .int .i64 a0_12, .int .i64 a0_13, .int .i64 a0_14, .int .i64 a0_15, .int .i64 a0_16, .slice A0_17 l0_17.length c0_17, .slice A0_18 l0_18.length c0_18, .slice A0_19 l0_19.length c0_19] 33 (0, 0)) (by (with_reducible repeat (first | refine blk_drewN ?_ _ | refine blk_drew ?_ | refine blk_alloc ?_ _)); exact BK130.out)) : gb130 ≠ gb131)); have n6_ := Aside0.mk ((by rw [hg]; exact Nat.ne_of_gt (blk_lt (g := gb130) (o := .cells #[.int .i64 a0_0, .int .u64 a0_1, .bool a0_2, .int .u64 a0_3, .int .i64 a0_4, .bool a0_5, .int .u32 a0_6, .int .i64 a0_7, .int .i64 a0_8, .int .i64 a0_9, .int .i64 a0_10, .int .i64 a0_11, .int .i64 a0_12, .int .i64 a0_13, .int .i64 a0_14, .int .i64 a0_15, .int .i64 a0_16, .slice A0_17 l0_17.length c0_17, .slice A0_18 l0_18.length c0_18, .slice A0_19 l0_19.length c0_19] 33 (0, 0)) (by (with_reducible repeat (first | refine blk_drewN ?_ _ | refine blk_drew ?_ | refine blk_alloc ?_ _)); exact BK130.out)) : gb131 ≠ gb130)); clear BK130; clear HB; have BK130 := n0_; have HB := n1_; have BK131 := n2_; have GW131 := n3_; have GE131 := n4_; have NB130_131 := n5_; have NB131_130 := n6_; clear n0_ n1_ n2_ n3_ n4_ n5_ n6_; clear hb hbox hg; have hnb48 := NB130_131.out; have hnc48 := NB131_130.out; have hcz49_0 : w47.cell? ⟨gb130, 0, none⟩ = some (.int .i64 a0_0) := (blk_cell BK130.out 0).trans rfl; have hcz49_1 : w47.cell? ⟨gb130, 1, none⟩ = some (.int .u64 a0_1) := (blk_cell BK130.out 1).trans rfl; have hcz49_2 : w47.cell? ⟨gb130, 2, none⟩ = some (.bool a0_2) := (blk_cell BK130.out 2).trans rfl; have hcz49_3 : w47.cell? ⟨gb130, 3, none⟩ = some (.int .u64 a0_3) := (blk_cell BK130.out 3).trans rfl; have hcz49_4 : w47.cell? ⟨gb130, 4, none⟩ = some (.int .i64 a0_4) := (blk_cell BK130.out 4).trans rfl; have hcz49_5 : w47.cell? ⟨gb130, 5, none⟩ = some (.bool a0_5) := (blk_cell BK130.out 5).trans rfl; have hcz49_6 : w47.cell? ⟨gb130, 6, none⟩ = some (.int .u32 a0_6) := (blk_cell BK130.out 6).trans rfl; have hcz49_7 : w47.cell? ⟨gb130, 7, none⟩ = some (.int .i64 a0_7) := (blk_cell BK130.out 7).trans rfl; have hcz49_8 : w47.cell? ⟨gb130, 8, none⟩ = some (.int .i64 a0_8) := (blk_cell BK130.out 8).trans rfl; have hcz49_9 : w47.cell? ⟨gb130, 9, none⟩ = some (.int .i64 a0_9) := (blk_cell BK130.out 9).trans rfl; have hcz49_10 : w47.cell? ⟨gb130, 10, none⟩ = some (.int .i64 a0_10) := (blk_cell BK130.out 10).trans rfl; have hcz49_11 : w47.cell? ⟨gb130, 11, none⟩ = some (.int .i64 a0_11) := (blk_cell BK130.out 11).trans rfl; have hcz49_12 : w47.cell? ⟨gb130, 12, none⟩ = some (.int .i64 a0_12) := (blk_cell BK130.out 12).trans rfl; have hcz49_13 : w47.cell? ⟨gb130, 13, none⟩ = some (.int .i64 a0_13) := (blk_cell BK130.out 13).trans rfl; have hcz49_14 : w47.cell? ⟨gb130, 14, none⟩ = some (.int .i64 a0_14) := (blk_cell BK130.out 14).trans rfl; have hcz49_15 : w47.cell? ⟨gb130, 15, none⟩ = some (.int .i64 a0_15) := (blk_cell BK130.out 15).trans rfl; have hcz49_16 : w47.cell? ⟨gb130, 16, none⟩ = some (.int .i64 a0_16) := (blk_cell BK130.out 16).trans rfl; have hcz49_17 : w47.cell? ⟨gb130, 17, none⟩ = some (.slice A0_17 l0_17.length c0_17) := (blk_cell BK130.out 17).trans rfl; have hcz49_18 : w47.cell? ⟨gb130, 18, none⟩ = some (.slice A0_18 l0_18.length c0_18) := (blk_cell BK130.out 18).trans rfl; have hcz49_19 : w47.cell? ⟨gb130, 19, none⟩ = some (.slice A0_19 l0_19.length c0_19) := (blk_cell BK130.out 19).trans rfl; have hfz49_0 := blk_frozen BK130.out 0; have hfz49_1 := blk_frozen BK130.out 1; have hfz49_2 := blk_frozen BK130.out 2; have hfz49_3 := blk_frozen BK130.out 3; have hfz49_4 := blk_frozen BK130.out 4; have hfz49_5 := blk_frozen BK130.out 5; have hfz49_6 := blk_frozen BK130.out 6; have hfz49_7 := blk_frozen BK130.out 7; have hfz49_8 := blk_frozen BK130.out 8; have hfz49_9 := blk_frozen BK130.out 9; have hfz49_10 := blk_frozen BK130.out 10; have hfz49_11 := blk_frozen BK130.out 11; have hfz49_12 := blk_frozen BK130.out 12; have hfz49_13 := blk_frozen BK130.out 13; have hfz49_14 := blk_frozen BK130.out 14; have hfz49_15 := blk_frozen BK130.out 15; have hfz49_16 := blk_frozen BK130.out 16; have hfz49_17 := blk_frozen BK130.out 17; have hfz49_18 := blk_frozen BK130.out 18; have hfz49_19 := blk_frozen BK130.out 19; have hcz50_0 : w47.cell? ⟨gb131, 0, none⟩ = some (.int .i64 a1_0) := (blk_cell BK131.out 0).trans rfl; have hcz50_1 : w47.cell? ⟨gb131, 1, none⟩ = some (.int .u64 a1_1) := (blk_cell BK131.out 1).trans rfl; have hcz50_2 : w47.cell? ⟨gb131, 2, none⟩ = some (.bool a1_2) := (blk_cell BK131.out 2).trans rfl; have hcz50_3 : w47.cell? ⟨gb131, 3, none⟩ = some (.int .u64 a1_3) := (blk_cell BK131.out 3).trans rfl; have hcz50_4 : w47.cell? ⟨gb131, 4, none⟩ = some (.int .i64 a1_4) := (blk_cell BK131.out 4).trans rfl; have hcz50_5 : w47.cell? ⟨gb131, 5, none⟩ = some (.bool a1_5) := (blk_cell BK131.out 5).trans rfl; have hcz50_6 : w47.cell? ⟨gb131, 6, none⟩ = some (.int .u32 a1_6) := (blk_cell BK131.out 6).trans rfl; have hcz50_7 : w47.cell? ⟨gb131, 7, none⟩ = some (.int .i64 a1_7) := (blk_cell BK131.out 7).trans rfl; have hcz50_8 : w47.cell? ⟨gb131, 8, none⟩ = some (.int .i64 a1_8) := (blk_cell BK131.out 8).trans rfl; have hcz50_9 : w47.cell? ⟨gb131, 9, none⟩ = some (.int .i64 a1_9) := (blk_cell BK131.out 9).trans rfl; have hcz50_10 : w47.cell? ⟨gb131, 10, none⟩ = some (.int .i64 a1_10) := (blk_cell BK131.out 10).trans rfl; have hcz50_11 : w47.cell? ⟨gb131, 11, none⟩ = some (.int .i64 a1_11) := (blk_cell BK131.out 11).trans rfl; have hcz50_12 : w47.cell? ⟨gb131, 12, none⟩ = some (.int .i64 a1_12) := (blk_cell BK131.out 12).trans rfl; have hcz50_13 : w47.cell? ⟨gb131, 13, none⟩ = some (.int .i64 a1_13) := (blk_cell BK131.out 13).trans rfl; have hcz50_14 : w47.cell? ⟨gb131, 14, none⟩ = some (.int .i64 a1_14) := (blk_cell BK131.out 14).trans rfl; have hcz50_15 : w47.cell? ⟨gb131, 15, none⟩ = some (.int .i64 a1_15) := (blk_cell BK131.out 15).trans rfl; have hcz50_16 : w47.cell? ⟨gb131, 16, none⟩ = some (.int .i64 a1_16) := (blk_cell BK131.out 16).trans rfl; have hcz50_17 : w47.cell? ⟨gb131, 17, none⟩ = some (.slice A1_17 l1_17.length c1_17) := (blk_cell BK131.out 17).trans rfl; have hcz50_18 : w47.cell? ⟨gb131, 18, none⟩ = some (.slice A1_18 l1_18.length c1_18) := (blk_cell BK131.out 18).trans rfl; have hcz50_19 : w47.cell? ⟨gb131, 19, none⟩ = some (.slice A1_19 l1_19.length c1_19) := (blk_cell BK131.out 19).trans rfl; have hfz50_0 := blk_frozen BK131.out 0; have hfz50_1 := blk_frozen BK131.out 1; have hfz50_2 := blk_frozen BK131.out 2; have hfz50_3 := blk_frozen BK131.out 3; have hfz50_4 := blk_frozen BK131.out 4; have hfz50_5 := blk_frozen BK131.out 5; have hfz50_6 := blk_frozen BK131.out 6; have hfz50_7 := blk_frozen BK131.out 7; have hfz50_8 := blk_frozen BK131.out 8; have hfz50_9 := blk_frozen BK131.out 9; have hfz50_10 := blk_frozen BK131.out 10; have hfz50_11 := blk_frozen BK131.out 11; have hfz50_12 := blk_frozen BK131.out 12; have hfz50_13 := blk_frozen BK131.out 13; have hfz50_14 := blk_frozen BK131.out 14; have hfz50_15 := blk_frozen BK131.out 15; have hfz50_16 := blk_frozen BK131.out 16; have hfz50_17 := blk_frozen BK131.out 17; have hfz50_18 := blk_frozen BK131.out 18; have hfz50_19 := blk_frozen BK131.out 19))
      go_ret
      exact ⟨by first | rfl | (simp [errW_none, errW_some] <;> rfl) | (simp [*, errW_none, errW_some] <;> rfl), by repeat (first | (with_reducible first | exact HB.out | apply below_alloc | apply pw_below_drewN | apply below_drew1 | refine below_set ?_ GE130.out | refine below_set ?_ GE131.out) | exact HB.out)⟩
  · rw [if_neg c3] at H
    have c3b0 : (a0_0 == a1_0) = false := beq_eq_false_iff_ne.mpr c3
    have c3b1 : (a0_0 != a1_0) = true := bne_iff_ne.mpr c3
    obtain rfl := Option.some.inj H
    go_enter Tryd.func11, Tryd.ntmps11
    go_wp2_with (first | ((with_reducible refine gate_dst (N := 2) rfl ?_); refine box_event ?hg (N := 2) ?hd (cs := #[.int .i64 a0_0, .int .u64 a0_1, .bool a0_2, .int .u64 a0_3, .int .i64 a0_4, .bool a0_5, .int .u32 a0_6, .int .i64 a0_7, .int .i64 a0_8, .int .i64 a0_9, .int .i64 a0_10, .int .i64 a0_11, .int .i64 a0_12, .int .i64 a0_13, .int .i64 a0_14, .int .i64 a0_15, .int .i64 a0_16, .slice A0_17 l0_17.length c0_17, .slice A0_18 l0_18.length c0_18, .slice A0_19 l0_19.length c0_19]) (t := 33) ?hr ?_; (case hd => rfl); (case hg => rfl); (case hr => first | (go_simp; done) | (go_simp; rfl)); intro gb130 hg w51 hbox hb; have n0_ := Aside0.mk (below_step (by repeat (first | (with_reducible first | exact HB.out | apply below_alloc | apply pw_below_drewN | apply below_drew1) | exact HB.out)) hb); have n1_ := Aside0.mk (hbox); have n2_ := Aside0.mk ((by rw [hg]; exact (below_size (by repeat (first | (with_reducible first | exact HB.out | apply below_alloc | apply pw_below_drewN | apply below_drew1) | exact HB.out))) : w.heap.size ≤ gb130)); have n3_ := Aside0.mk ((by rw [hg]; exact (below_size (by repeat (first | (with_reducible first | exact HB.out | apply below_alloc | apply pw_below_drewN | apply below_drew1) | exact HB.out))) : w.heap.size ≤ gb130)); clear HB; have HB := n0_; have BK130 := n1_; have GW130 := n2_; have GE130 := n3_; clear n0_ n1_ n2_ n3_; clear hb hbox hg) | ((with_reducible refine gate_dst (N := 3) rfl ?_); refine box_event ?hg (N := 3) ?hd (cs := #[.int .i64 a1_0, .int .u64 a1_1, .bool a1_2, .int .u64 a1_3, .int .i64 a1_4, .bool a1_5, .int .u32 a1_6, .int .i64 a1_7, .int .i64 a1_8, .int .i64 a1_9, .int .i64 a1_10, .int .i64 a1_11, .int .i64 a1_12, .int .i64 a1_13, .int .i64 a1_14, .int .i64 a1_15, .int .i64 a1_16, .slice A1_17 l1_17.length c1_17, .slice A1_18 l1_18.length c1_18, .slice A1_19 l1_19.length c1_19]) (t := 33) ?hr ?_; (case hd => rfl); (case hg => rfl); (case hr => first | (go_simp; done) | (go_simp; rfl)); intro gb131 hg w52 hbox hb; have n0_ := Aside0.mk (blk_below (g := gb130) (o := .cells #[.int .i64 a0_0, .int .u64 a0_1, .bool a0_2, .int .u64 a0_3, .int .i64 a0_4, .bool a0_5, .int .u32 a0_6, .int .i64 a0_7, .int .i64 a0_8, .int .i64 a0_9, .int .i64 a0_10, .int .i64 a0_11, .int .i64 a0_12, .int .i64 a0_13, .int .i64 a0_14, .int .i64 a0_15, .int .i64 a0_16, .slice A0_17 l0_17.length c0_17, .slice A0_18 l0_18.length c0_18, .slice A0_19 l0_19.length c0_19] 33 (0, 0)) (by (with_reducible repeat (first | refine blk_drewN ?_ _ | refine blk_drew ?_ | refine blk_alloc ?_ _)); exact BK130.out) hb); have n1_ := Aside0.mk (below_step (by repeat (first | (with_reducible first | exact HB.out | apply below_alloc | apply pw_below_drewN | apply below_drew1 | refine below_set ?_ GE130.out) | exact HB.out)) hb); have n2_ := Aside0.mk (hbox); have n3_ := Aside0.mk ((by rw [hg]; exact (below_size (by repeat (first | (with_reducible first | exact HB.out | apply below_alloc | apply pw_below_drewN | apply below_drew1 | refine below_set ?_ GE130.out) | exact HB.out))) : w.heap.size ≤ gb131)); have n4_ := Aside0.mk ((by rw [hg]; exact (below_size (by repeat (first | (with_reducible first | exact HB.out | apply below_alloc | apply pw_below_drewN | apply below_drew1 | refine below_set ?_ GE130.out) | exact HB.out))) : w.heap.size ≤ gb131)); have n5_ := Aside0.mk ((by rw [hg]; exact Nat.ne_of_lt (blk_lt (g := gb130) (o := .cells #[.int .i64 a0_0, .int .u64 a0_1, .bool a0_2, .int .u64 a0_3, .int .i64 a0_4, .bool a0_5, .int .u32 a0_6, .int .i64 a0_7, .int .i64 a0_8, .int .i64 a0_9, .int .i64 a0_10, .int .i64 a0_11, .int .i64 a0_12, .int .i64 a0_13, .int .i64 a0_14, .int .i64 a0_15, .int .i64 a0_16, .slice A0_17 l0_17.length c0_17, .slice A0_18 l0_18.length c0_18, .slice A0_19 l0_19.length c0_19] 33 (0, 0)) (by (with_reducible repeat (first | refine blk_drewN ?_ _ | refine blk_drew ?_ | refine blk_alloc ?_ _)); exact BK130.out)) : gb130 ≠ gb131)); have n6_ := Aside0.mk ((by rw [hg]; exact Nat.ne_of_gt (blk_lt (g := gb130) (o := .cells #[.int .i64 a0_0, .int .u64 a0_1, .bool a0_2, .int .u64 a0_3, .int .i64 a0_4, .bool a0_5, .int .u32 a0_6, .int .i64 a0_7, .int .i64 a0_8, .int .i64 a0_9, .int .i64 a0_10, .int .i64 a0_11, .int .i64 a0_12, .int .i64 a0_13, .int .i64 a0_14, .int .i64 a0_15, .int .i64 a0_16, .slice A0_17 l0_17.length c0_17, .slice A0_18 l0_18.length c0_18, .slice A0_19 l0_19.length c0_19] 33 (0, 0)) (by (with_reducible repeat (first | refine blk_drewN ?_ _ | refine blk_drew ?_ | refine blk_alloc ?_ _)); exact BK130.out)) : gb131 ≠ gb130)); clear BK130; clear HB; have BK130 := n0_; have HB := n1_; have BK131 := n2_; have GW131 := n3_; have GE131 := n4_; have NB130_131 := n5_; have NB131_130 := n6_; clear n0_ n1_ n2_ n3_ n4_ n5_ n6_; clear hb hbox hg; have hnb53 := NB130_131.out; have hnc53 := NB131_130.out; have hcz54_0 : w52.cell? ⟨gb130, 0, none⟩ = some (.int .i64 a0_0) := (blk_cell BK130.out 0).trans rfl; have hcz54_1 : w52.cell? ⟨gb130, 1, none⟩ = some (.int .u64 a0_1) := (blk_cell BK130.out 1).trans rfl; have hcz54_2 : w52.cell? ⟨gb130, 2, none⟩ = some (.bool a0_2) := (blk_cell BK130.out 2).trans rfl; have hcz54_3 : w52.cell? ⟨gb130, 3, none⟩ = some (.int .u64 a0_3) := (blk_cell BK130.out 3).trans rfl; have hcz54_4 : w52.cell? ⟨gb130, 4, none⟩ = some (.int .i64 a0_4) := (blk_cell BK130.out 4).trans rfl; have hcz54_5 : w52.cell? ⟨gb130, 5, none⟩ = some (.bool a0_5) := (blk_cell BK130.out 5).trans rfl; have hcz54_6 : w52.cell? ⟨gb130, 6, none⟩ = some (.int .u32 a0_6) := (blk_cell BK130.out 6).trans rfl; have hcz54_7 : w52.cell? ⟨gb130, 7, none⟩ = some (.int .i64 a0_7) := (blk_cell BK130.out 7).trans rfl; have hcz54_8 : w52.cell? ⟨gb130, 8, none⟩ = some (.int .i64 a0_8) := (blk_cell BK130.out 8).trans rfl; have hcz54_9 : w52.cell? ⟨gb130, 9, none⟩ = some (.int .i64 a0_9) := (blk_cell BK130.out 9).trans rfl; have hcz54_10 : w52.cell? ⟨gb130, 10, none⟩ = some (.int .i64 a0_10) := (blk_cell BK130.out 10).trans rfl; have hcz54_11 : w52.cell? ⟨gb130, 11, none⟩ = some (.int .i64 a0_11) := (blk_cell BK130.out 11).trans rfl; have hcz54_12 : w52.cell? ⟨gb130, 12, none⟩ = some (.int .i64 a0_12) := (blk_cell BK130.out 12).trans rfl; have hcz54_13 : w52.cell? ⟨gb130, 13, none⟩ = some (.int .i64 a0_13) := (blk_cell BK130.out 13).trans rfl; have hcz54_14 : w52.cell? ⟨gb130, 14, none⟩ = some (.int .i64 a0_14) := (blk_cell BK130.out 14).trans rfl; have hcz54_15 : w52.cell? ⟨gb130, 15, none⟩ = some (.int .i64 a0_15) := (blk_cell BK130.out 15).trans rfl; have hcz54_16 : w52.cell? ⟨gb130, 16, none⟩ = some (.int .i64 a0_16) := (blk_cell BK130.out 16).trans rfl; have hcz54_17 : w52.cell? ⟨gb130, 17, none⟩ = some (.slice A0_17 l0_17.length c0_17) := (blk_cell BK130.out 17).trans rfl; have hcz54_18 : w52.cell? ⟨gb130, 18, none⟩ = some (.slice A0_18 l0_18.length c0_18) := (blk_cell BK130.out 18).trans rfl; have hcz54_19 : w52.cell? ⟨gb130, 19, none⟩ = some (.slice A0_19 l0_19.length c0_19) := (blk_cell BK130.out 19).trans rfl; have hfz54_0 := blk_frozen BK130.out 0; have hfz54_1 := blk_frozen BK130.out 1; have hfz54_2 := blk_frozen BK130.out 2; have hfz54_3 := blk_frozen BK130.out 3; have hfz54_4 := blk_frozen BK130.out 4; have hfz54_5 := blk_frozen BK130.out 5; have hfz54_6 := blk_frozen BK130.out 6; have hfz54_7 := blk_frozen BK130.out 7; have hfz54_8 := blk_frozen BK130.out 8; have hfz54_9 := blk_frozen BK130.out 9; have hfz54_10 := blk_frozen BK130.out 10; have hfz54_11 := blk_frozen BK130.out 11; have hfz54_12 := blk_frozen BK130.out 12; have hfz54_13 := blk_frozen BK130.out 13; have hfz54_14 := blk_frozen BK130.out 14; have hfz54_15 := blk_frozen BK130.out 15; have hfz54_16 := blk_frozen BK130.out 16; have hfz54_17 := blk_frozen BK130.out 17; have hfz54_18 := blk_frozen BK130.out 18; have hfz54_19 := blk_frozen BK130.out 19; have hcz55_0 : w52.cell? ⟨gb131, 0, none⟩ = some (.int .i64 a1_0) := (blk_cell BK131.out 0).trans rfl; have hcz55_1 : w52.cell? ⟨gb131, 1, none⟩ = some (.int .u64 a1_1) := (blk_cell BK131.out 1).trans rfl; have hcz55_2 : w52.cell? ⟨gb131, 2, none⟩ = some (.bool a1_2) := (blk_cell BK131.out 2).trans rfl; have hcz55_3 : w52.cell? ⟨gb131, 3, none⟩ = some (.int .u64 a1_3) := (blk_cell BK131.out 3).trans rfl; have hcz55_4 : w52.cell? ⟨gb131, 4, none⟩ = some (.int .i64 a1_4) := (blk_cell BK131.out 4).trans rfl; have hcz55_5 : w52.cell? ⟨gb131, 5, none⟩ = some (.bool a1_5) := (blk_cell BK131.out 5).trans rfl; have hcz55_6 : w52.cell? ⟨gb131, 6, none⟩ = some (.int .u32 a1_6) := (blk_cell BK131.out 6).trans rfl; have hcz55_7 : w52.cell? ⟨gb131, 7, none⟩ = some (.int .i64 a1_7) := (blk_cell BK131.out 7).trans rfl; have hcz55_8 : w52.cell? ⟨gb131, 8, none⟩ = some (.int .i64 a1_8) := (blk_cell BK131.out 8).trans rfl; have hcz55_9 : w52.cell? ⟨gb131, 9, none⟩ = some (.int .i64 a1_9) := (blk_cell BK131.out 9).trans rfl; have hcz55_10 : w52.cell? ⟨gb131, 10, none⟩ = some (.int .i64 a1_10) := (blk_cell BK131.out 10).trans rfl; have hcz55_11 : w52.cell? ⟨gb131, 11, none⟩ = some (.int .i64 a1_11) := (blk_cell BK131.out 11).trans rfl; have hcz55_12 : w52.cell? ⟨gb131, 12, none⟩ = some (.int .i64 a1_12) := (blk_cell BK131.out 12).trans rfl; have hcz55_13 : w52.cell? ⟨gb131, 13, none⟩ = some (.int .i64 a1_13) := (blk_cell BK131.out 13).trans rfl; have hcz55_14 : w52.cell? ⟨gb131, 14, none⟩ = some (.int .i64 a1_14) := (blk_cell BK131.out 14).trans rfl; have hcz55_15 : w52.cell? ⟨gb131, 15, none⟩ = some (.int .i64 a1_15) := (blk_cell BK131.out 15).trans rfl; have hcz55_16 : w52.cell? ⟨gb131, 16, none⟩ = some (.int .i64 a1_16) := (blk_cell BK131.out 16).trans rfl; have hcz55_17 : w52.cell? ⟨gb131, 17, none⟩ = some (.slice A1_17 l1_17.length c1_17) := (blk_cell BK131.out 17).trans rfl; have hcz55_18 : w52.cell? ⟨gb131, 18, none⟩ = some (.slice A1_18 l1_18.length c1_18) := (blk_cell BK131.out 18).trans rfl; have hcz55_19 : w52.cell? ⟨gb131, 19, none⟩ = some (.slice A1_19 l1_19.length c1_19) := (blk_cell BK131.out 19).trans rfl; have hfz55_0 := blk_frozen BK131.out 0; have hfz55_1 := blk_frozen BK131.out 1; have hfz55_2 := blk_frozen BK131.out 2; have hfz55_3 := blk_frozen BK131.out 3; have hfz55_4 := blk_frozen BK131.out 4; have hfz55_5 := blk_frozen BK131.out 5; have hfz55_6 := blk_frozen BK131.out 6; have hfz55_7 := blk_frozen BK131.out 7; have hfz55_8 := blk_frozen BK131.out 8; have hfz55_9 := blk_frozen BK131.out 9; have hfz55_10 := blk_frozen BK131.out 10; have hfz55_11 := blk_frozen BK131.out 11; have hfz55_12 := blk_frozen BK131.out 12; have hfz55_13 := blk_frozen BK131.out 13; have hfz55_14 := blk_frozen BK131.out 14; have hfz55_15 := blk_frozen BK131.out 15; have hfz55_16 := blk_frozen BK131.out 16; have hfz55_17 := blk_frozen BK131.out 17; have hfz55_18 := blk_frozen BK131.out 18; have hfz55_19 := blk_frozen BK131.out 19))
    go_ret
    exact ⟨by first | rfl | (simp [errW_none, errW_some] <;> rfl) | (simp [*, errW_none, errW_some] <;> rfl), by repeat (first | (with_reducible first | exact HB.out | apply below_alloc | apply pw_below_drewN | apply below_drew1 | refine below_set ?_ GE130.out | refine below_set ?_ GE131.out) | exact HB.out)⟩
end Go.Proofs.YtiamkgoajkfofaaDoor.S
end
section
namespace Go.Proofs.YtiamkgoajkfofaaDoor.S
open Go.RowKit Go.Proofs.YtiamkgoajkfofaaDoorW.PrintWords Go.Proofs.YtiamkgoajkfofaaDoorW.PrintLast Go.Proofs.YtiamkgoajkfofaaDoorW.PrintMore
attribute [local go_sem] max2_int min2_int max_two min_two max_three min_three max_four min_four   -- for this text's walks alone
attribute [local go_sem high] eqA25 eqA63
mutual
def gazetteerref13_Same.j0 : Nat → Bool → Int → Int → Int → Int → List (S63) → List Int → Int → Int → Int → Int → List (S63) → List Int → Option (Bool)
  | 0, _, _, _, _, _, _, _, _, _, _, _, _, _ => none
  | k + 1, x29, x135000, x135001, x135002, x135003, x135004, x135005, x136000, x136001, x136002, x136003, x136004, x136005 => if x29 = true then (some false) else (gazetteerref13_Same.l0 k 0 x135000 x135001 x135002 x135003 x135004 x135005 x136000 x136001 x136002 x136003 x136004 x136005)
def gazetteerref13_Same.l0 : Nat → Int → Int → Int → Int → Int → List (S63) → List Int → Int → Int → Int → Int → List (S63) → List Int → Option (Bool)
  | 0, _, _, _, _, _, _, _, _, _, _, _, _, _ => none
  | k + 1, x5, x135000, x135001, x135002, x135003, x135004, x135005, x136000, x136001, x136002, x136003, x136004, x136005 => if x5 < (x135004.length : Int) then (if 0 ≤ x5 then (if x5 < (x136004.length : Int) then (if (!(((rd_T63 x135004 x5).f0) == ((rd_T63 x136004 x5).f0)) || (!(((rd_T63 x135004 x5).f1) == ((rd_T63 x136004 x5).f1)))) = true then (some false) else (gazetteerref13_Same.l0 k (wrap64 (x5 + 1)) x135000 x135001 x135002 x135003 x135004 x135005 x136000 x136001 x136002 x136003 x136004 x136005)) else (none)) else (none)) else (gazetteerref13_Same.l1 k 0 x135000 x135001 x135002 x135003 x135004 x135005 x136000 x136001 x136002 x136003 x136004 x136005)
def gazetteerref13_Same.l1 : Nat → Int → Int → Int → Int → Int → List (S63) → List Int → Int → Int → Int → Int → List (S63) → List Int → Option (Bool)
  | 0, _, _, _, _, _, _, _, _, _, _, _, _, _ => none
  | k + 1, x6, x135000, x135001, x135002, x135003, x135004, x135005, x136000, x136001, x136002, x136003, x136004, x136005 => if x6 < (x135005.length : Int) then (if 0 ≤ x6 then (if x6 < (x136005.length : Int) then (if (rd x135005 x6) = (rd x136005 x6) then (gazetteerref13_Same.l1 k (wrap64 (x6 + 1)) x135000 x135001 x135002 x135003 x135004 x135005 x136000 x136001 x136002 x136003 x136004 x136005) else (some false)) else (none)) else (none)) else (some true)
end
def gazetteerref13_Same.f (k : Nat) (a0_0 : Int) (a0_1 : Int) (a0_2 : Int) (a0_3 : Int) (l0_4 : List (S63)) (l0_5 : List Int) (a1_0 : Int) (a1_1 : Int) (a1_2 : Int) (a1_3 : Int) (l1_4 : List (S63)) (l1_5 : List Int) : Option (Bool) := if (!(a0_0 == a1_0) || (!(a0_1 == a1_1) || (!(a0_2 == a1_2) || (!(a0_3 == a1_3))))) = true then (gazetteerref13_Same.j0 k true a0_0 a0_1 a0_2 a0_3 l0_4 l0_5 a1_0 a1_1 a1_2 a1_3 l1_4 l1_5) else (if (l0_4.length : Int) = (l1_4.length : Int) then (gazetteerref13_Same.j0 k ((l0_5.length : Int) != (l1_5.length : Int)) a0_0 a0_1 a0_2 a0_3 l0_4 l0_5 a1_0 a1_1 a1_2 a1_3 l1_4 l1_5) else (gazetteerref13_Same.j0 k true a0_0 a0_1 a0_2 a0_3 l0_4 l0_5 a1_0 a1_1 a1_2 a1_3 l1_4 l1_5))
set_option maxHeartbeats 8000000 in
set_option maxRecDepth 100000 in
theorem gazetteerref13_Same.calls (k : Nat) (a0_0 : Int) (a0_1 : Int) (a0_2 : Int) (a0_3 : Int) (A0_4 : Option Addr) (c0_4 : Nat) (l0_4 : List (S63)) (A0_5 : Option Addr) (c0_5 : Nat) (l0_5 : List Int) (a1_0 : Int) (a1_1 : Int) (a1_2 : Int) (a1_3 : Int) (A1_4 : Option Addr) (c1_4 : Nat) (l1_4 : List (S63)) (A1_5 : Option Addr) (c1_5 : Nat) (l1_5 : List Int) (r : Bool) (w : World) (hr0_4 : Kd.C k63 w A0_4 l0_4.length l0_4) (hc0_4 : l0_4.length ≤ c0_4) (hr0_5 : Kd.C (Kd.int .u32) w A0_5 l0_5.length l0_5) (hc0_5 : l0_5.length ≤ c0_5) (hr1_4 : Kd.C k63 w A1_4 l1_4.length l1_4) (hc1_4 : l1_4.length ≤ c1_4) (hr1_5 : Kd.C (Kd.int .u32) w A1_5 l1_5.length l1_5) (hc1_5 : l1_5.length ≤ c1_5) (h : gazetteerref13_Same.f k a0_0 a0_1 a0_2 a0_3 l0_4 l0_5 a1_0 a1_1 a1_2 a1_3 l1_4 l1_5 = some r) :
    Calls Tryd.prog 37 #[.agg #[.int .i64 a0_0, .int .i64 a0_1, .int .i64 a0_2, .int .i64 a0_3, .slice A0_4 l0_4.length c0_4, .slice A0_5 l0_5.length c0_5], .agg #[.int .i64 a1_0, .int .i64 a1_1, .int .i64 a1_2, .int .i64 a1_3, .slice A1_4 l1_4.length c1_4, .slice A1_5 l1_5.length c1_5]] w fun e w' => e = .returned (.bool r) ∧ Below w.heap.size w w' := by
  have hu31 := Tryd.underlying31
  have hu25 := Tryd.underlying25
  have hu63 := Tryd.underlying63
  have HR0_4 := Aside0.mk hr0_4
  have HC0_4 := Aside0.mk hc0_4
  clear hr0_4 hc0_4
  have HR0_5 := Aside0.mk hr0_5
  have HC0_5 := Aside0.mk hc0_5
  clear hr0_5 hc0_5
  have HR1_4 := Aside0.mk hr1_4
  have HC1_4 := Aside0.mk hc1_4
  clear hr1_4 hc1_4
  have HR1_5 := Aside0.mk hr1_5
  have HC1_5 := Aside0.mk hc1_5
  clear hr1_5 hc1_5
  have HB := Aside0.mk (Below.refl w.heap.size w)
  have H : (if (!(a0_0 == a1_0) || (!(a0_1 == a1_1) || (!(a0_2 == a1_2) || (!(a0_3 == a1_3))))) = true then (gazetteerref13_Same.j0 k true a0_0 a0_1 a0_2 a0_3 l0_4 l0_5 a1_0 a1_1 a1_2 a1_3 l1_4 l1_5) else (if (l0_4.length : Int) = (l1_4.length : Int) then (gazetteerref13_Same.j0 k ((l0_5.length : Int) != (l1_5.length : Int)) a0_0 a0_1 a0_2 a0_3 l0_4 l0_5 a1_0 a1_1 a1_2 a1_3 l1_4 l1_5) else (gazetteerref13_Same.j0 k true a0_0 a0_1 a0_2 a0_3 l0_4 l0_5 a1_0 a1_1 a1_2 a1_3 l1_4 l1_5))) = some r := h
  clear h
  have HC3 := Aside0.mk H
  clear H
  go_enter Tryd.func37, Tryd.ntmps37
  go_upto_region 1 with (first | ((with_reducible refine gate_dst (N := 2) rfl ?_); (try (refine gate_guard (by rfl) ?_; dsimp only)); refine box_event ?hg (N := 2) ?hd (cs := #[.int .i64 a0_0, .int .i64 a0_1, .int .i64 a0_2, .int .i64 a0_3, .slice A0_4 l0_4.length c0_4, .slice A0_5 l0_5.length c0_5]) (t := 31) ?hr ?_; (case hd => rfl); (case hg => rfl); (case hr => first | (go_simp; done) | (go_simp; rfl)); intro gb134 hg w4 hbox hb; have n0_ := Aside0.mk (below_step (by repeat (first | (with_reducible first | exact HB.out | apply below_alloc | apply pw_below_drewN | apply below_drew1) | exact HB.out)) hb); have n1_ := Aside0.mk (hbox); have n2_ := Aside0.mk ((by rw [hg]; exact (below_size (by repeat (first | (with_reducible first | exact HB.out | apply below_alloc | apply pw_below_drewN | apply below_drew1) | exact HB.out))) : w.heap.size ≤ gb134)); have n3_ := Aside0.mk ((by rw [hg]; exact (below_size (by repeat (first | (with_reducible first | exact HB.out | apply below_alloc | apply pw_below_drewN | apply below_drew1) | exact HB.out))) : w.heap.size ≤ gb134)); clear HB; have HB := n0_; have BK134 := n1_; have GW134 := n2_; have GE134 := n3_; clear n0_ n1_ n2_ n3_; clear hb hbox hg) | ((with_reducible refine gate_dst (N := 3) rfl ?_); (try (refine gate_guard (by rfl) ?_; dsimp only)); refine box_event ?hg (N := 3) ?hd (cs := #[.int .i64 a1_0, .int .i64 a1_1, .int .i64 a1_2, .int .i64 a1_3, .slice A1_4 l1_4.length c1_4, .slice A1_5 l1_5.length c1_5]) (t := 31) ?hr ?_; (case hd => rfl); (case hg => rfl); (case hr => first | (go_simp; done) | (go_simp; rfl)); intro gb135 hg w5 hbox hb; have n0_ := Aside0.mk (blk_below (g := gb134) (o := .cells #[.int .i64 a0_0, .int .i64 a0_1, .int .i64 a0_2, .int .i64 a0_3, .slice A0_4 l0_4.length c0_4, .slice A0_5 l0_5.length c0_5] 31 (0, 0)) (by (with_reducible repeat (first | refine blk_drewN ?_ _ | refine blk_drew ?_ | refine blk_alloc ?_ _)); exact BK134.out) hb); have n1_ := Aside0.mk (below_step (by repeat (first | (with_reducible first | exact HB.out | apply below_alloc | apply pw_below_drewN | apply below_drew1 | refine below_set ?_ GE134.out) | exact HB.out)) hb); have n2_ := Aside0.mk (hbox); have n3_ := Aside0.mk ((by rw [hg]; exact (below_size (by repeat (first | (with_reducible first | exact HB.out | apply below_alloc | apply pw_below_drewN | apply below_drew1 | refine below_set ?_ GE134.out) | exact HB.out))) : w.heap.size ≤ gb135)); have n4_ := Aside0.mk ((by rw [hg]; exact (below_size (by repeat (first | (with_reducible first | exact HB.out | apply below_alloc | apply pw_below_drewN | apply below_drew1 | refine below_set ?_ GE134.out) | exact HB.out))) : w.heap.size ≤ gb135)); have n5_ := Aside0.mk ((by rw [hg]; exact Nat.ne_of_lt (blk_lt (g := gb134) (o := .cells #[.int .i64 a0_0, .int .i64 a0_1, .int .i64 a0_2, .int .i64 a0_3, .slice A0_4 l0_4.length c0_4, .slice A0_5 l0_5.length c0_5] 31 (0, 0)) (by (with_reducible repeat (first | refine blk_drewN ?_ _ | refine blk_drew ?_ | refine blk_alloc ?_ _)); exact BK134.out)) : gb134 ≠ gb135)); have n6_ := Aside0.mk ((by rw [hg]; exact Nat.ne_of_gt (blk_lt (g := gb134) (o := .cells #[.int .i64 a0_0, .int .i64 a0_1, .int .i64 a0_2, .int .i64 a0_3, .slice A0_4 l0_4.length c0_4, .slice A0_5 l0_5.length c0_5] 31 (0, 0)) (by (with_reducible repeat (first | refine blk_drewN ?_ _ | refine blk_drew ?_ | refine blk_alloc ?_ _)); exact BK134.out)) : gb135 ≠ gb134)); clear BK134; clear HB; have BK134 := n0_; have HB := n1_; have BK135 := n2_; have GW135 := n3_; have GE135 := n4_; have NB134_135 := n5_; have NB135_134 := n6_; clear n0_ n1_ n2_ n3_ n4_ n5_ n6_; clear hb hbox hg))
  repeat (go_quiet (first | ((with_reducible refine gate_dst (N := 2) rfl ?_); (try (refine gate_guard (by rfl) ?_; dsimp only)); refine box_event ?hg (N := 2) ?hd (cs := #[.int .i64 a0_0, .int .i64 a0_1, .int .i64 a0_2, .int .i64 a0_3, .slice A0_4 l0_4.length c0_4, .slice A0_5 l0_5.length c0_5]) (t := 31) ?hr ?_; (case hd => rfl); (case hg => rfl); (case hr => first | (go_simp; done) | (go_simp; rfl)); intro gb134 hg w4 hbox hb; have n0_ := Aside0.mk (below_step (by repeat (first | (with_reducible first | exact HB.out | apply below_alloc | apply pw_below_drewN | apply below_drew1) | exact HB.out)) hb); have n1_ := Aside0.mk (hbox); have n2_ := Aside0.mk ((by rw [hg]; exact (below_size (by repeat (first | (with_reducible first | exact HB.out | apply below_alloc | apply pw_below_drewN | apply below_drew1) | exact HB.out))) : w.heap.size ≤ gb134)); have n3_ := Aside0.mk ((by rw [hg]; exact (below_size (by repeat (first | (with_reducible first | exact HB.out | apply below_alloc | apply pw_below_drewN | apply below_drew1) | exact HB.out))) : w.heap.size ≤ gb134)); clear HB; have HB := n0_; have BK134 := n1_; have GW134 := n2_; have GE134 := n3_; clear n0_ n1_ n2_ n3_; clear hb hbox hg) | ((with_reducible refine gate_dst (N := 3) rfl ?_); (try (refine gate_guard (by rfl) ?_; dsimp only)); refine box_event ?hg (N := 3) ?hd (cs := #[.int .i64 a1_0, .int .i64 a1_1, .int .i64 a1_2, .int .i64 a1_3, .slice A1_4 l1_4.length c1_4, .slice A1_5 l1_5.length c1_5]) (t := 31) ?hr ?_; (case hd => rfl); (case hg => rfl); (case hr => first | (go_simp; done) | (go_simp; rfl)); intro gb135 hg w5 hbox hb; have n0_ := Aside0.mk (blk_below (g := gb134) (o := .cells #[.int .i64 a0_0, .int .i64 a0_1, .int .i64 a0_2, .int .i64 a0_3, .slice A0_4 l0_4.length c0_4, .slice A0_5 l0_5.length c0_5] 31 (0, 0)) (by (with_reducible repeat (first | refine blk_drewN ?_ _ | refine blk_drew ?_ | refine blk_alloc ?_ _)); exact BK134.out) hb); have n1_ := Aside0.mk (below_step (by repeat (first | (with_reducible first | exact HB.out | apply below_alloc | apply pw_below_drewN | apply below_drew1 | refine below_set ?_ GE134.out) | exact HB.out)) hb); have n2_ := Aside0.mk (hbox); have n3_ := Aside0.mk ((by rw [hg]; exact (below_size (by repeat (first | (with_reducible first | exact HB.out | apply below_alloc | apply pw_below_drewN | apply below_drew1 | refine below_set ?_ GE134.out) | exact HB.out))) : w.heap.size ≤ gb135)); have n4_ := Aside0.mk ((by rw [hg]; exact (below_size (by repeat (first | (with_reducible first | exact HB.out | apply below_alloc | apply pw_below_drewN | apply below_drew1 | refine below_set ?_ GE134.out) | exact HB.out))) : w.heap.size ≤ gb135)); have n5_ := Aside0.mk ((by rw [hg]; exact Nat.ne_of_lt (blk_lt (g := gb134) (o := .cells #[.int .i64 a0_0, .int .i64 a0_1, .int .i64 a0_2, .int .i64 a0_3, .slice A0_4 l0_4.length c0_4, .slice A0_5 l0_5.length c0_5] 31 (0, 0)) (by (with_reducible repeat (first | refine blk_drewN ?_ _ | refine blk_drew ?_ | refine blk_alloc ?_ _)); exact BK134.out)) : gb134 ≠ gb135)); have n6_ := Aside0.mk ((by rw [hg]; exact Nat.ne_of_gt (blk_lt (g := gb134) (o := .cells #[.int .i64 a0_0, .int .i64 a0_1, .int .i64 a0_2, .int .i64 a0_3, .slice A0_4 l0_4.length c0_4, .slice A0_5 l0_5.length c0_5] 31 (0, 0)) (by (with_reducible repeat (first | refine blk_drewN ?_ _ | refine blk_drew ?_ | refine blk_alloc ?_ _)); exact BK134.out)) : gb135 ≠ gb134)); clear BK134; clear HB; have BK134 := n0_; have HB := n1_; have BK135 := n2_; have GW135 := n3_; have GE135 := n4_; have NB134_135 := n5_; have NB135_134 := n6_; clear n0_ n1_ n2_ n3_ n4_ n5_ n6_; clear hb hbox hg)); go_upto_region 1 with (first | ((with_reducible refine gate_dst (N := 2) rfl ?_); (try (refine gate_guard (by rfl) ?_; dsimp only)); refine box_event ?hg (N := 2) ?hd (cs := #[.int .i64 a0_0, .int .i64 a0_1, .int .i64 a0_2, .int .i64 a0_3, .slice A0_4 l0_4.length c0_4, .slice A0_5 l0_5.length c0_5]) (t := 31) ?hr ?_; (case hd => rfl); (case hg => rfl); (case hr => first | (go_simp; done) | (go_simp; rfl)); intro gb134 hg w4 hbox hb; have n0_ := Aside0.mk (below_step (by repeat (first | (with_reducible first | exact HB.out | apply below_alloc | apply pw_below_drewN | apply below_drew1) | exact HB.out)) hb); have n1_ := Aside0.mk (hbox); have n2_ := Aside0.mk ((by rw [hg]; exact (below_size (by repeat (first | (with_reducible first | exact HB.out | apply below_alloc | apply pw_below_drewN | apply below_drew1) | exact HB.out))) : w.heap.size ≤ gb134)); have n3_ := Aside0.mk ((by rw [hg]; exact (below_size (by repeat (first | (with_reducible first | exact HB.out | apply below_alloc | apply pw_below_drewN | apply below_drew1) | exact HB.out))) : w.heap.size ≤ gb134)); clear HB; have HB := n0_; have BK134 := n1_; have GW134 := n2_; have GE134 := n3_; clear n0_ n1_ n2_ n3_; clear hb hbox hg) | ((with_reducible refine gate_dst (N := 3) rfl ?_); (try (refine gate_guard (by rfl) ?_; dsimp only)); refine box_event ?hg (N := 3) ?hd (cs := #[.int .i64 a1_0, .int .i64 a1_1, .int .i64 a1_2, .int .i64 a1_3, .slice A1_4 l1_4.length c1_4, .slice A1_5 l1_5.length c1_5]) (t := 31) ?hr ?_; (case hd => rfl); (case hg => rfl); (case hr => first | (go_simp; done) | (go_simp; rfl)); intro gb135 hg w5 hbox hb; have n0_ := Aside0.mk (blk_below (g := gb134) (o := .cells #[.int .i64 a0_0, .int .i64 a0_1, .int .i64 a0_2, .int .i64 a0_3, .slice A0_4 l0_4.length c0_4, .slice A0_5 l0_5.length c0_5] 31 (0, 0)) (by (with_reducible repeat (first | refine blk_drewN ?_ _ | refine blk_drew ?_ | refine blk_alloc ?_ _)); exact BK134.out) hb); have n1_ := Aside0.mk (below_step (by repeat (first | (with_reducible first | exact HB.out | apply below_alloc | apply pw_below_drewN | apply below_drew1 | refine below_set ?_ GE134.out) | exact HB.out)) hb); have n2_ := Aside0.mk (hbox); have n3_ := Aside0.mk ((by rw [hg]; exact (below_size (by repeat (first | (with_reducible first | exact HB.out | apply below_alloc | apply pw_below_drewN | apply below_drew1 | refine below_set ?_ GE134.out) | exact HB.out))) : w.heap.size ≤ gb135)); have n4_ := Aside0.mk ((by rw [hg]; exact (below_size (by repeat (first | (with_reducible first | exact HB.out | apply below_alloc | apply pw_below_drewN | apply below_drew1 | refine below_set ?_ GE134.out) | exact HB.out))) : w.heap.size ≤ gb135)); have n5_ := Aside0.mk ((by rw [hg]; exact Nat.ne_of_lt (blk_lt (g := gb134) (o := .cells #[.int .i64 a0_0, .int .i64 a0_1, .int .i64 a0_2, .int .i64 a0_3, .slice A0_4 l0_4.length c0_4, .slice A0_5 l0_5.length c0_5] 31 (0, 0)) (by (with_reducible repeat (first | refine blk_drewN ?_ _ | refine blk_drew ?_ | refine blk_alloc ?_ _)); exact BK134.out)) : gb134 ≠ gb135)); have n6_ := Aside0.mk ((by rw [hg]; exact Nat.ne_of_gt (blk_lt (g := gb134) (o := .cells #[.int .i64 a0_0, .int .i64 a0_1, .int .i64 a0_2, .int .i64 a0_3, .slice A0_4 l0_4.length c0_4, .slice A0_5 l0_5.length c0_5] 31 (0, 0)) (by (with_reducible repeat (first | refine blk_drewN ?_ _ | refine blk_drew ?_ | refine blk_alloc ?_ _)); exact BK134.out)) : gb135 ≠ gb134)); clear BK134; clear HB; have BK134 := n0_; have HB := n1_; have BK135 := n2_; have GW135 := n3_; have GE135 := n4_; have NB134_135 := n5_; have NB135_134 := n6_; clear n0_ n1_ n2_ n3_ n4_ n5_ n6_; clear hb hbox hg)))
  (try simp only [Act.put, List.setIfInBounds_toArray, List.set_cons_zero, List.set_cons_succ])
  go_cut [29] (fun v29 wc => ∃ (kq : Nat) (x29_2 : Bool), v29 = .bool x29_2 ∧ Aside0 (gazetteerref13_Same.j0 kq x29_2 a0_0 a0_1 a0_2 a0_3 l0_4 l0_5 a1_0 a1_1 a1_2 a1_3 l1_4 l1_5 = some r) ∧ Aside0 (kq ≤ k) ∧ Aside0 (wc.heap[gb134]? = some (.cells #[.int .i64 a0_0, .int .i64 a0_1, .int .i64 a0_2, .int .i64 a0_3, (.slice A0_4 l0_4.length c0_4), (.slice A0_5 l0_5.length c0_5)] 31 (0, 0))) ∧ Aside0 (wc.heap[gb135]? = some (.cells #[.int .i64 a1_0, .int .i64 a1_1, .int .i64 a1_2, .int .i64 a1_3, (.slice A1_4 l1_4.length c1_4), (.slice A1_5 l1_5.length c1_5)] 31 (0, 0))) ∧ Aside0 (Below w.heap.size w wc))
  case first =>
    have H := HC3.out
    clear HC3
    by_cases c6 : (!(a0_0 == a1_0) || (!(a0_1 == a1_1) || (!(a0_2 == a1_2) || (!(a0_3 == a1_3))))) = true
    · rw [if_pos c6] at H
      have c6b0 : (!(a0_0 == a1_0) || (!(a0_1 == a1_1) || (!(a0_2 == a1_2) || (!(a0_3 == a1_3))))) = true := c6
      clear c6
      (first | rw [c6b0] | (simp only [i64_w, i32_w]; rw [c6b0]) | skip)
      have H' := Aside0.mk H
      clear H
      have hnb7 := NB134_135.out
      have hnc7 := NB135_134.out
      have hcz8_0 : w5.cell? ⟨gb134, 0, none⟩ = some (.int .i64 a0_0) := (blk_cell BK134.out 0).trans rfl
      have hcz8_1 : w5.cell? ⟨gb134, 1, none⟩ = some (.int .i64 a0_1) := (blk_cell BK134.out 1).trans rfl
      have hcz8_2 : w5.cell? ⟨gb134, 2, none⟩ = some (.int .i64 a0_2) := (blk_cell BK134.out 2).trans rfl
      have hcz8_3 : w5.cell? ⟨gb134, 3, none⟩ = some (.int .i64 a0_3) := (blk_cell BK134.out 3).trans rfl
      have hcz8_4 : w5.cell? ⟨gb134, 4, none⟩ = some (.slice A0_4 l0_4.length c0_4) := (blk_cell BK134.out 4).trans rfl
      have hcz8_5 : w5.cell? ⟨gb134, 5, none⟩ = some (.slice A0_5 l0_5.length c0_5) := (blk_cell BK134.out 5).trans rfl
      have hfz8_0 := blk_frozen BK134.out 0
      have hfz8_1 := blk_frozen BK134.out 1
      have hfz8_2 := blk_frozen BK134.out 2
      have hfz8_3 := blk_frozen BK134.out 3
      have hfz8_4 := blk_frozen BK134.out 4
      have hfz8_5 := blk_frozen BK134.out 5
      have hcz9_0 : w5.cell? ⟨gb135, 0, none⟩ = some (.int .i64 a1_0) := (blk_cell BK135.out 0).trans rfl
      have hcz9_1 : w5.cell? ⟨gb135, 1, none⟩ = some (.int .i64 a1_1) := (blk_cell BK135.out 1).trans rfl
      have hcz9_2 : w5.cell? ⟨gb135, 2, none⟩ = some (.int .i64 a1_2) := (blk_cell BK135.out 2).trans rfl
      have hcz9_3 : w5.cell? ⟨gb135, 3, none⟩ = some (.int .i64 a1_3) := (blk_cell BK135.out 3).trans rfl
      have hcz9_4 : w5.cell? ⟨gb135, 4, none⟩ = some (.slice A1_4 l1_4.length c1_4) := (blk_cell BK135.out 4).trans rfl
      have hcz9_5 : w5.cell? ⟨gb135, 5, none⟩ = some (.slice A1_5 l1_5.length c1_5) := (blk_cell BK135.out 5).trans rfl
      have hfz9_0 := blk_frozen BK135.out 0
      have hfz9_1 := blk_frozen BK135.out 1
      have hfz9_2 := blk_frozen BK135.out 2
      have hfz9_3 := blk_frozen BK135.out 3
      have hfz9_4 := blk_frozen BK135.out 4
      have hfz9_5 := blk_frozen BK135.out 5
      go_wp2
      repeat (go_quiet (fail); try go_wp2)
      go_meet
      case rel => exact ⟨_, (true), (by first | rfl | (simp; done) | (simp [*]; done)), H', ⟨by first | omega | exact Nat.le_refl _⟩, ⟨by (with_reducible repeat (first | refine blk_drewN ?_ _ | refine blk_drew ?_ | refine blk_alloc ?_ _)); exact BK134.out⟩, ⟨by (with_reducible repeat (first | refine blk_drewN ?_ _ | refine blk_drew ?_ | refine blk_alloc ?_ _)); exact BK135.out⟩, ⟨by repeat (first | (with_reducible first | exact HB.out | apply below_alloc | apply pw_below_drewN | apply below_drew1 | refine below_set ?_ GE134.out | refine below_set ?_ GE135.out) | exact HB.out)⟩⟩
    · rw [if_neg c6] at H
      have c6b0 : (!(a0_0 == a1_0) || (!(a0_1 == a1_1) || (!(a0_2 == a1_2) || (!(a0_3 == a1_3))))) = false := by simpa using c6
      clear c6
      (first | rw [c6b0] | (simp only [i64_w, i32_w]; rw [c6b0]) | skip)
      by_cases c10 : (l0_4.length : Int) = (l1_4.length : Int)
      · rw [if_pos c10] at H
        have c10b0 : ((l0_4.length : Int) == (l1_4.length : Int)) = true := beq_iff_eq.mpr c10
        have c10b1 : ((l0_4.length : Int) != (l1_4.length : Int)) = false := bne_eq_false_iff_eq.mpr c10
        have c10b2 : (l0_4.length == l1_4.length) = true := by first | simpa using c10 | (simp at c10 ⊢; omega)
        clear c10
        have H' := Aside0.mk H
        clear H
        have hnb11 := NB134_135.out
        have hnc11 := NB135_134.out
        have hcz12_0 : w5.cell? ⟨gb134, 0, none⟩ = some (.int .i64 a0_0) := (blk_cell BK134.out 0).trans rfl
        have hcz12_1 : w5.cell? ⟨gb134, 1, none⟩ = some (.int .i64 a0_1) := (blk_cell BK134.out 1).trans rfl
        have hcz12_2 : w5.cell? ⟨gb134, 2, none⟩ = some (.int .i64 a0_2) := (blk_cell BK134.out 2).trans rfl
        have hcz12_3 : w5.cell? ⟨gb134, 3, none⟩ = some (.int .i64 a0_3) := (blk_cell BK134.out 3).trans rfl
        have hcz12_4 : w5.cell? ⟨gb134, 4, none⟩ = some (.slice A0_4 l0_4.length c0_4) := (blk_cell BK134.out 4).trans rfl
        have hcz12_5 : w5.cell? ⟨gb134, 5, none⟩ = some (.slice A0_5 l0_5.length c0_5) := (blk_cell BK134.out 5).trans rfl
        have hfz12_0 := blk_frozen BK134.out 0
        have hfz12_1 := blk_frozen BK134.out 1
        have hfz12_2 := blk_frozen BK134.out 2
        have hfz12_3 := blk_frozen BK134.out 3
        have hfz12_4 := blk_frozen BK134.out 4
        have hfz12_5 := blk_frozen BK134.out 5
        have hcz13_0 : w5.cell? ⟨gb135, 0, none⟩ = some (.int .i64 a1_0) := (blk_cell BK135.out 0).trans rfl
        have hcz13_1 : w5.cell? ⟨gb135, 1, none⟩ = some (.int .i64 a1_1) := (blk_cell BK135.out 1).trans rfl
        have hcz13_2 : w5.cell? ⟨gb135, 2, none⟩ = some (.int .i64 a1_2) := (blk_cell BK135.out 2).trans rfl
        have hcz13_3 : w5.cell? ⟨gb135, 3, none⟩ = some (.int .i64 a1_3) := (blk_cell BK135.out 3).trans rfl
        have hcz13_4 : w5.cell? ⟨gb135, 4, none⟩ = some (.slice A1_4 l1_4.length c1_4) := (blk_cell BK135.out 4).trans rfl
        have hcz13_5 : w5.cell? ⟨gb135, 5, none⟩ = some (.slice A1_5 l1_5.length c1_5) := (blk_cell BK135.out 5).trans rfl
        have hfz13_0 := blk_frozen BK135.out 0
        have hfz13_1 := blk_frozen BK135.out 1
        have hfz13_2 := blk_frozen BK135.out 2
        have hfz13_3 := blk_frozen BK135.out 3
        have hfz13_4 := blk_frozen BK135.out 4
        have hfz13_5 := blk_frozen BK135.out 5
        go_wp2
        repeat (go_quiet (fail); try go_wp2)
        go_meet
        case rel => exact ⟨_, (((l0_5.length : Int) != (l1_5.length : Int))), (by first | rfl | (simp; done) | (simp [*]; done)), H', ⟨by first | omega | exact Nat.le_refl _⟩, ⟨by (with_reducible repeat (first | refine blk_drewN ?_ _ | refine blk_drew ?_ | refine blk_alloc ?_ _)); exact BK134.out⟩, ⟨by (with_reducible repeat (first | refine blk_drewN ?_ _ | refine blk_drew ?_ | refine blk_alloc ?_ _)); exact BK135.out⟩, ⟨by repeat (first | (with_reducible first | exact HB.out | apply below_alloc | apply pw_below_drewN | apply below_drew1 | refine below_set ?_ GE134.out | refine below_set ?_ GE135.out) | exact HB.out)⟩⟩
      · rw [if_neg c10] at H
        have c10b0 : ((l0_4.length : Int) == (l1_4.length : Int)) = false := beq_eq_false_iff_ne.mpr c10
        have c10b1 : ((l0_4.length : Int) != (l1_4.length : Int)) = true := bne_iff_ne.mpr c10
        have c10b2 : (l0_4.length == l1_4.length) = false := by first | simpa using c10 | (simp at c10 ⊢; omega)
        have H' := Aside0.mk H
        clear H
        have hnb14 := NB134_135.out
        have hnc14 := NB135_134.out
        have hcz15_0 : w5.cell? ⟨gb134, 0, none⟩ = some (.int .i64 a0_0) := (blk_cell BK134.out 0).trans rfl
        have hcz15_1 : w5.cell? ⟨gb134, 1, none⟩ = some (.int .i64 a0_1) := (blk_cell BK134.out 1).trans rfl
        have hcz15_2 : w5.cell? ⟨gb134, 2, none⟩ = some (.int .i64 a0_2) := (blk_cell BK134.out 2).trans rfl
        have hcz15_3 : w5.cell? ⟨gb134, 3, none⟩ = some (.int .i64 a0_3) := (blk_cell BK134.out 3).trans rfl
        have hcz15_4 : w5.cell? ⟨gb134, 4, none⟩ = some (.slice A0_4 l0_4.length c0_4) := (blk_cell BK134.out 4).trans rfl
        have hcz15_5 : w5.cell? ⟨gb134, 5, none⟩ = some (.slice A0_5 l0_5.length c0_5) := (blk_cell BK134.out 5).trans rfl
        have hfz15_0 := blk_frozen BK134.out 0
        have hfz15_1 := blk_frozen BK134.out 1
        have hfz15_2 := blk_frozen BK134.out 2
        have hfz15_3 := blk_frozen BK134.out 3
        have hfz15_4 := blk_frozen BK134.out 4
        have hfz15_5 := blk_frozen BK134.out 5
        have hcz16_0 : w5.cell? ⟨gb135, 0, none⟩ = some (.int .i64 a1_0) := (blk_cell BK135.out 0).trans rfl
        have hcz16_1 : w5.cell? ⟨gb135, 1, none⟩ = some (.int .i64 a1_1) := (blk_cell BK135.out 1).trans rfl
        have hcz16_2 : w5.cell? ⟨gb135, 2, none⟩ = some (.int .i64 a1_2) := (blk_cell BK135.out 2).trans rfl
        have hcz16_3 : w5.cell? ⟨gb135, 3, none⟩ = some (.int .i64 a1_3) := (blk_cell BK135.out 3).trans rfl
        have hcz16_4 : w5.cell? ⟨gb135, 4, none⟩ = some (.slice A1_4 l1_4.length c1_4) := (blk_cell BK135.out 4).trans rfl
        have hcz16_5 : w5.cell? ⟨gb135, 5, none⟩ = some (.slice A1_5 l1_5.length c1_5) := (blk_cell BK135.out 5).trans rfl
        have hfz16_0 := blk_frozen BK135.out 0
        have hfz16_1 := blk_frozen BK135.out 1
        have hfz16_2 := blk_frozen BK135.out 2
        have hfz16_3 := blk_frozen BK135.out 3
        have hfz16_4 := blk_frozen BK135.out 4
        have hfz16_5 := blk_frozen BK135.out 5
        go_wp2
        repeat (go_quiet (fail); try go_wp2)
        go_meet
        case rel => exact ⟨_, (true), (by first | rfl | (simp; done) | (simp [*]; done)), H', ⟨by first | omega | exact Nat.le_refl _⟩, ⟨by (with_reducible repeat (first | refine blk_drewN ?_ _ | refine blk_drew ?_ | refine blk_alloc ?_ _)); exact BK134.out⟩, ⟨by (with_reducible repeat (first | refine blk_drewN ?_ _ | refine blk_drew ?_ | refine blk_alloc ?_ _)); exact BK135.out⟩, ⟨by repeat (first | (with_reducible first | exact HB.out | apply below_alloc | apply pw_below_drewN | apply below_drew1 | refine below_set ?_ GE134.out | refine below_set ?_ GE135.out) | exact HB.out)⟩⟩
  case rest =>
    clear HC3
    try clear c1
    try clear p2
    try clear c3
    try clear c6
    try clear c6b0
    try clear c7
    try clear c10
    try clear c10b0
    try clear c10b1
    try clear c10b2
    try clear c11
    try clear c14
    try clear hcz12_0
    try clear hcz12_1
    try clear hcz12_2
    try clear hcz12_3
    try clear hcz12_4
    try clear hcz12_5
    try clear hcz13_0
    try clear hcz13_1
    try clear hcz13_2
    try clear hcz13_3
    try clear hcz13_4
    try clear hcz13_5
    try clear hcz15_0
    try clear hcz15_1
    try clear hcz15_2
    try clear hcz15_3
    try clear hcz15_4
    try clear hcz15_5
    try clear hcz16_0
    try clear hcz16_1
    try clear hcz16_2
    try clear hcz16_3
    try clear hcz16_4
    try clear hcz16_5
    try clear hcz8_0
    try clear hcz8_1
    try clear hcz8_2
    try clear hcz8_3
    try clear hcz8_4
    try clear hcz8_5
    try clear hcz9_0
    try clear hcz9_1
    try clear hcz9_2
    try clear hcz9_3
    try clear hcz9_4
    try clear hcz9_5
    try clear hfz12_0
    try clear hfz12_1
    try clear hfz12_2
    try clear hfz12_3
    try clear hfz12_4
    try clear hfz12_5
    try clear hfz13_0
    try clear hfz13_1
    try clear hfz13_2
    try clear hfz13_3
    try clear hfz13_4
    try clear hfz13_5
    try clear hfz15_0
    try clear hfz15_1
    try clear hfz15_2
    try clear hfz15_3
    try clear hfz15_4
    try clear hfz15_5
    try clear hfz16_0
    try clear hfz16_1
    try clear hfz16_2
    try clear hfz16_3
    try clear hfz16_4
    try clear hfz16_5
    try clear hfz8_0
    try clear hfz8_1
    try clear hfz8_2
    try clear hfz8_3
    try clear hfz8_4
    try clear hfz8_5
    try clear hfz9_0
    try clear hfz9_1
    try clear hfz9_2
    try clear hfz9_3
    try clear hfz9_4
    try clear hfz9_5
    obtain ⟨kq, x29_2, rfl, HA, HJ2, BK134, BK135, HB⟩ := hcut
    cases kq with
    | zero => exact absurd HA.out (by simp [gazetteerref13_Same.j0])
    | succ kj2 =>
      have H := HA.out
      clear HA
      simp only [gazetteerref13_Same.j0] at H
      by_cases c17 : x29_2 = true
      · subst c17
        have H1 : (some false) = some r := by rw [if_pos rfl] at H; exact H
        clear H
        have H := H1
        clear H1
        obtain rfl := Option.some.inj H
        go_wp2
        repeat (go_quiet (fail); try go_wp2)
        go_ret
        exact ⟨by first | rfl | (simp [errW_none, errW_some] <;> rfl) | (simp [*, errW_none, errW_some] <;> rfl), by repeat (first | (with_reducible first | exact HB.out | apply below_alloc | apply pw_below_drewN | apply below_drew1 | refine below_set ?_ GE134.out | refine below_set ?_ GE135.out) | exact HB.out)⟩
      · replace c17 := Bool.eq_false_iff.mpr c17
        subst c17
        have H1 : (gazetteerref13_Same.l0 kj2 0 a0_0 a0_1 a0_2 a0_3 l0_4 l0_5 a1_0 a1_1 a1_2 a1_3 l1_4 l1_5) = some r := by rw [if_neg (show ¬ (false = true) by decide)] at H; exact H
        clear H
        have H := H1
        clear H1
        have H' := Aside0.mk H
        clear H
        go_wp2
        repeat (go_quiet (fail); try go_wp2)
        go_loopg [5] kj2 (fun kq v5 w' => ∃ (x5_2 : Int), v5 = .int .i64 x5_2 ∧ Aside0 (gazetteerref13_Same.l0 kq x5_2 a0_0 a0_1 a0_2 a0_3 l0_4 l0_5 a1_0 a1_1 a1_2 a1_3 l1_4 l1_5 = some r) ∧ Aside0 (kq ≤ kj2) ∧ Aside0 (w'.heap[gb134]? = some (.cells #[.int .i64 a0_0, .int .i64 a0_1, .int .i64 a0_2, .int .i64 a0_3, (.slice A0_4 l0_4.length c0_4), (.slice A0_5 l0_5.length c0_5)] 31 (0, 0))) ∧ Aside0 (w'.heap[gb135]? = some (.cells #[.int .i64 a1_0, .int .i64 a1_1, .int .i64 a1_2, .int .i64 a1_3, (.slice A1_4 l1_4.length c1_4), (.slice A1_5 l1_5.length c1_5)] 31 (0, 0))) ∧ Aside0 (Below w.heap.size w w'))
        case atStart => exact ⟨(0), (by first | rfl | (simp; done) | (simp [*]; done)), H', ⟨Nat.le_refl _⟩, ⟨by (with_reducible repeat (first | refine blk_drewN ?_ _ | refine blk_drew ?_ | refine blk_alloc ?_ _)); exact BK134.out⟩, ⟨by (with_reducible repeat (first | refine blk_drewN ?_ _ | refine blk_drew ?_ | refine blk_alloc ?_ _)); exact BK135.out⟩, ⟨by repeat (first | (with_reducible first | exact HB.out | apply below_alloc | apply pw_below_drewN | apply below_drew1 | refine below_set ?_ GE134.out | refine below_set ?_ GE135.out) | exact HB.out)⟩⟩
        case round =>
          clear H'
          try clear c1
          try clear p2
          try clear c3
          try clear c6
          try clear c6b0
          try clear c7
          try clear c10
          try clear c10b0
          try clear c10b1
          try clear c10b2
          try clear c11
          try clear c14
          try clear c17
          try clear hcz12_0
          try clear hcz12_1
          try clear hcz12_2
          try clear hcz12_3
          try clear hcz12_4
          try clear hcz12_5
          try clear hcz13_0
          try clear hcz13_1
          try clear hcz13_2
          try clear hcz13_3
          try clear hcz13_4
          try clear hcz13_5
          try clear hcz15_0
          try clear hcz15_1
          try clear hcz15_2
          try clear hcz15_3
          try clear hcz15_4
          try clear hcz15_5
          try clear hcz16_0
          try clear hcz16_1
          try clear hcz16_2
          try clear hcz16_3
          try clear hcz16_4
          try clear hcz16_5
          try clear hcz8_0
          try clear hcz8_1
          try clear hcz8_2
          try clear hcz8_3
          try clear hcz8_4
          try clear hcz8_5
          try clear hcz9_0
          try clear hcz9_1
          try clear hcz9_2
          try clear hcz9_3
          try clear hcz9_4
          try clear hcz9_5
          try clear hfz12_0
          try clear hfz12_1
          try clear hfz12_2
          try clear hfz12_3
          try clear hfz12_4
          try clear hfz12_5
          try clear hfz13_0
          try clear hfz13_1
          try clear hfz13_2
          try clear hfz13_3
          try clear hfz13_4
          try clear hfz13_5
          try clear hfz15_0
          try clear hfz15_1
          try clear hfz15_2
          try clear hfz15_3
          try clear hfz15_4
          try clear hfz15_5
          try clear hfz16_0
          try clear hfz16_1
          try clear hfz16_2
          try clear hfz16_3
          try clear hfz16_4
          try clear hfz16_5
          try clear hfz8_0
          try clear hfz8_1
          try clear hfz8_2
          try clear hfz8_3
          try clear hfz8_4
          try clear hfz8_5
          try clear hfz9_0
          try clear hfz9_1
          try clear hfz9_2
          try clear hfz9_3
          try clear hfz9_4
          try clear hfz9_5
          try clear p2
          obtain ⟨x5_2, rfl, HA, HK2, BK134, BK135, HB⟩ := hrel
          cases gk with
          | zero => exact absurd HA.out (by simp [gazetteerref13_Same.l0])
          | succ k2 =>
            have H := HA.out
            clear HA
            simp only [gazetteerref13_Same.l0] at H
            by_cases c18 : x5_2 < (l0_4.length : Int)
            · rw [if_pos c18] at H
              have c18b0 : decide (x5_2 < (l0_4.length : Int)) = true := decide_eq_true c18
              clear c18
              by_cases c19 : 0 ≤ x5_2
              · rw [if_pos c19] at H
                have c19b0 : decide (0 ≤ x5_2) = true := decide_eq_true c19
                clear c19
                by_cases c20 : x5_2 < (l1_4.length : Int)
                · rw [if_pos c20] at H
                  have c20b0 : decide (x5_2 < (l1_4.length : Int)) = true := decide_eq_true c20
                  clear c20
                  by_cases c21 : (!(((rd_T63 l0_4 x5_2).f0) == ((rd_T63 l1_4 x5_2).f0)) || (!(((rd_T63 l0_4 x5_2).f1) == ((rd_T63 l1_4 x5_2).f1)))) = true
                  · rw [if_pos c21] at H
                    have c21b0 : (!(((rd_T63 l0_4 x5_2).f0) == ((rd_T63 l1_4 x5_2).f0)) || (!(((rd_T63 l0_4 x5_2).f1) == ((rd_T63 l1_4 x5_2).f1)))) = true := c21
                    clear c21
                    obtain rfl := Option.some.inj H
                    have hnb22 := NB134_135.out
                    have hnc22 := NB135_134.out
                    have hcz23_0 : wr.cell? ⟨gb134, 0, none⟩ = some (.int .i64 a0_0) := (blk_cell BK134.out 0).trans rfl
                    have hcz23_1 : wr.cell? ⟨gb134, 1, none⟩ = some (.int .i64 a0_1) := (blk_cell BK134.out 1).trans rfl
                    have hcz23_2 : wr.cell? ⟨gb134, 2, none⟩ = some (.int .i64 a0_2) := (blk_cell BK134.out 2).trans rfl
                    have hcz23_3 : wr.cell? ⟨gb134, 3, none⟩ = some (.int .i64 a0_3) := (blk_cell BK134.out 3).trans rfl
                    have hcz23_4 : wr.cell? ⟨gb134, 4, none⟩ = some (.slice A0_4 l0_4.length c0_4) := (blk_cell BK134.out 4).trans rfl
                    have hcz23_5 : wr.cell? ⟨gb134, 5, none⟩ = some (.slice A0_5 l0_5.length c0_5) := (blk_cell BK134.out 5).trans rfl
                    have hfz23_0 := blk_frozen BK134.out 0
                    have hfz23_1 := blk_frozen BK134.out 1
                    have hfz23_2 := blk_frozen BK134.out 2
                    have hfz23_3 := blk_frozen BK134.out 3
                    have hfz23_4 := blk_frozen BK134.out 4
                    have hfz23_5 := blk_frozen BK134.out 5
                    have p136 : 0 ≤ (x5_2 : Int) := of_decide_eq_true (by first | (with_reducible assumption) | assumption)
                    have q136 : x5_2 < (l0_4.length : Int) := of_decide_eq_true (by first | (with_reducible assumption) | assumption)
                    obtain ⟨ad136, e136, hx136_0, hx136_1⟩ := at_T63 HR0_4.out x5_2 p136 q136
                    cases e136
                    replace hx136_0 := (HB.out.cell (World.block_lt_of_cell? w _ hx136_0)).trans hx136_0
                    replace hx136_1 := (HB.out.cell (World.block_lt_of_cell? w _ hx136_1)).trans hx136_1
                    replace p136 := eq_true p136
                    replace q136 := eq_true q136
                    have hcz24_0 : wr.cell? ⟨gb135, 0, none⟩ = some (.int .i64 a1_0) := (blk_cell BK135.out 0).trans rfl
                    have hcz24_1 : wr.cell? ⟨gb135, 1, none⟩ = some (.int .i64 a1_1) := (blk_cell BK135.out 1).trans rfl
                    have hcz24_2 : wr.cell? ⟨gb135, 2, none⟩ = some (.int .i64 a1_2) := (blk_cell BK135.out 2).trans rfl
                    have hcz24_3 : wr.cell? ⟨gb135, 3, none⟩ = some (.int .i64 a1_3) := (blk_cell BK135.out 3).trans rfl
                    have hcz24_4 : wr.cell? ⟨gb135, 4, none⟩ = some (.slice A1_4 l1_4.length c1_4) := (blk_cell BK135.out 4).trans rfl
                    have hcz24_5 : wr.cell? ⟨gb135, 5, none⟩ = some (.slice A1_5 l1_5.length c1_5) := (blk_cell BK135.out 5).trans rfl
                    have hfz24_0 := blk_frozen BK135.out 0
                    have hfz24_1 := blk_frozen BK135.out 1
                    have hfz24_2 := blk_frozen BK135.out 2
                    have hfz24_3 := blk_frozen BK135.out 3
                    have hfz24_4 := blk_frozen BK135.out 4
                    have hfz24_5 := blk_frozen BK135.out 5
                    have p137 : 0 ≤ (x5_2 : Int) := of_decide_eq_true (by first | (with_reducible assumption) | assumption)
                    have q137 : x5_2 < (l1_4.length : Int) := of_decide_eq_true (by first | (with_reducible assumption) | assumption)
                    obtain ⟨ad137, e137, hx137_0, hx137_1⟩ := at_T63 HR1_4.out x5_2 p137 q137
                    cases e137
                    replace hx137_0 := (HB.out.cell (World.block_lt_of_cell? w _ hx137_0)).trans hx137_0
                    replace hx137_1 := (HB.out.cell (World.block_lt_of_cell? w _ hx137_1)).trans hx137_1
                    replace p137 := eq_true p137
                    replace q137 := eq_true q137
                    go_wp2
                    repeat (go_quiet (fail); try go_wp2)
                    go_ret
                    exact ⟨by first | rfl | (simp [errW_none, errW_some] <;> rfl) | (simp [*, errW_none, errW_some] <;> rfl), by repeat (first | (with_reducible first | exact HB.out | apply below_alloc | apply pw_below_drewN | apply below_drew1 | refine below_set ?_ GE134.out | refine below_set ?_ GE135.out) | exact HB.out)⟩
                  · rw [if_neg c21] at H
                    have c21b0 : (!(((rd_T63 l0_4 x5_2).f0) == ((rd_T63 l1_4 x5_2).f0)) || (!(((rd_T63 l0_4 x5_2).f1) == ((rd_T63 l1_4 x5_2).f1)))) = false := by simpa using c21
                    clear c21
                    have H' := Aside0.mk H
                    clear H
                    have hnb25 := NB134_135.out
                    have hnc25 := NB135_134.out
                    have hcz26_0 : wr.cell? ⟨gb134, 0, none⟩ = some (.int .i64 a0_0) := (blk_cell BK134.out 0).trans rfl
                    have hcz26_1 : wr.cell? ⟨gb134, 1, none⟩ = some (.int .i64 a0_1) := (blk_cell BK134.out 1).trans rfl
                    have hcz26_2 : wr.cell? ⟨gb134, 2, none⟩ = some (.int .i64 a0_2) := (blk_cell BK134.out 2).trans rfl
                    have hcz26_3 : wr.cell? ⟨gb134, 3, none⟩ = some (.int .i64 a0_3) := (blk_cell BK134.out 3).trans rfl
                    have hcz26_4 : wr.cell? ⟨gb134, 4, none⟩ = some (.slice A0_4 l0_4.length c0_4) := (blk_cell BK134.out 4).trans rfl
                    have hcz26_5 : wr.cell? ⟨gb134, 5, none⟩ = some (.slice A0_5 l0_5.length c0_5) := (blk_cell BK134.out 5).trans rfl
                    have hfz26_0 := blk_frozen BK134.out 0
                    have hfz26_1 := blk_frozen BK134.out 1
                    have hfz26_2 := blk_frozen BK134.out 2
                    have hfz26_3 := blk_frozen BK134.out 3
                    have hfz26_4 := blk_frozen BK134.out 4
                    have hfz26_5 := blk_frozen BK134.out 5
                    have p136 : 0 ≤ (x5_2 : Int) := of_decide_eq_true (by first | (with_reducible assumption) | assumption)
                    have q136 : x5_2 < (l0_4.length : Int) := of_decide_eq_true (by first | (with_reducible assumption) | assumption)
                    obtain ⟨ad136, e136, hx136_0, hx136_1⟩ := at_T63 HR0_4.out x5_2 p136 q136
                    cases e136
                    replace hx136_0 := (HB.out.cell (World.block_lt_of_cell? w _ hx136_0)).trans hx136_0
                    replace hx136_1 := (HB.out.cell (World.block_lt_of_cell? w _ hx136_1)).trans hx136_1
                    replace p136 := eq_true p136
                    replace q136 := eq_true q136
                    have hcz27_0 : wr.cell? ⟨gb135, 0, none⟩ = some (.int .i64 a1_0) := (blk_cell BK135.out 0).trans rfl
                    have hcz27_1 : wr.cell? ⟨gb135, 1, none⟩ = some (.int .i64 a1_1) := (blk_cell BK135.out 1).trans rfl
                    have hcz27_2 : wr.cell? ⟨gb135, 2, none⟩ = some (.int .i64 a1_2) := (blk_cell BK135.out 2).trans rfl
                    have hcz27_3 : wr.cell? ⟨gb135, 3, none⟩ = some (.int .i64 a1_3) := (blk_cell BK135.out 3).trans rfl
                    have hcz27_4 : wr.cell? ⟨gb135, 4, none⟩ = some (.slice A1_4 l1_4.length c1_4) := (blk_cell BK135.out 4).trans rfl
                    have hcz27_5 : wr.cell? ⟨gb135, 5, none⟩ = some (.slice A1_5 l1_5.length c1_5) := (blk_cell BK135.out 5).trans rfl
                    have hfz27_0 := blk_frozen BK135.out 0
                    have hfz27_1 := blk_frozen BK135.out 1
                    have hfz27_2 := blk_frozen BK135.out 2
                    have hfz27_3 := blk_frozen BK135.out 3
                    have hfz27_4 := blk_frozen BK135.out 4
                    have hfz27_5 := blk_frozen BK135.out 5
                    have p137 : 0 ≤ (x5_2 : Int) := of_decide_eq_true (by first | (with_reducible assumption) | assumption)
                    have q137 : x5_2 < (l1_4.length : Int) := of_decide_eq_true (by first | (with_reducible assumption) | assumption)
                    obtain ⟨ad137, e137, hx137_0, hx137_1⟩ := at_T63 HR1_4.out x5_2 p137 q137
                    cases e137
                    replace hx137_0 := (HB.out.cell (World.block_lt_of_cell? w _ hx137_0)).trans hx137_0
                    replace hx137_1 := (HB.out.cell (World.block_lt_of_cell? w _ hx137_1)).trans hx137_1
                    replace p137 := eq_true p137
                    replace q137 := eq_true q137
                    go_wp2
                    repeat (go_quiet (fail); try go_wp2)
                    go_roundg k2
                    case measure => have := HJ2.out; have := HK2.out; omega
                    case rel => exact ⟨(wrap64 (x5_2 + 1)), (by first | rfl | (simp; done) | (simp [*]; done)), H', ⟨by have := HJ2.out; have := HK2.out; omega⟩, ⟨by (with_reducible repeat (first | refine blk_drewN ?_ _ | refine blk_drew ?_ | refine blk_alloc ?_ _)); exact BK134.out⟩, ⟨by (with_reducible repeat (first | refine blk_drewN ?_ _ | refine blk_drew ?_ | refine blk_alloc ?_ _)); exact BK135.out⟩, ⟨by repeat (first | (with_reducible first | exact HB.out | apply below_alloc | apply pw_below_drewN | apply below_drew1 | refine below_set ?_ GE134.out | refine below_set ?_ GE135.out) | exact HB.out)⟩⟩
                · rw [if_neg c20] at H
                  exact absurd H (by simp)
              · rw [if_neg c19] at H
                exact absurd H (by simp)
            · rw [if_neg c18] at H
              have c18b0 : decide (x5_2 < (l0_4.length : Int)) = false := decide_eq_false c18
              clear c18
              have H' := Aside0.mk H
              clear H
              have hnb28 := NB134_135.out
              have hnc28 := NB135_134.out
              have hcz29_0 : wr.cell? ⟨gb134, 0, none⟩ = some (.int .i64 a0_0) := (blk_cell BK134.out 0).trans rfl
              have hcz29_1 : wr.cell? ⟨gb134, 1, none⟩ = some (.int .i64 a0_1) := (blk_cell BK134.out 1).trans rfl
              have hcz29_2 : wr.cell? ⟨gb134, 2, none⟩ = some (.int .i64 a0_2) := (blk_cell BK134.out 2).trans rfl
              have hcz29_3 : wr.cell? ⟨gb134, 3, none⟩ = some (.int .i64 a0_3) := (blk_cell BK134.out 3).trans rfl
              have hcz29_4 : wr.cell? ⟨gb134, 4, none⟩ = some (.slice A0_4 l0_4.length c0_4) := (blk_cell BK134.out 4).trans rfl
              have hcz29_5 : wr.cell? ⟨gb134, 5, none⟩ = some (.slice A0_5 l0_5.length c0_5) := (blk_cell BK134.out 5).trans rfl
              have hfz29_0 := blk_frozen BK134.out 0
              have hfz29_1 := blk_frozen BK134.out 1
              have hfz29_2 := blk_frozen BK134.out 2
              have hfz29_3 := blk_frozen BK134.out 3
              have hfz29_4 := blk_frozen BK134.out 4
              have hfz29_5 := blk_frozen BK134.out 5
              go_wp2
              repeat (go_quiet (fail); try go_wp2)
              go_loopg [6] k2 (fun kq v6 w' => ∃ (x6_3 : Int), v6 = .int .i64 x6_3 ∧ Aside0 (gazetteerref13_Same.l1 kq x6_3 a0_0 a0_1 a0_2 a0_3 l0_4 l0_5 a1_0 a1_1 a1_2 a1_3 l1_4 l1_5 = some r) ∧ Aside0 (kq ≤ k2) ∧ Aside0 (w'.heap[gb134]? = some (.cells #[.int .i64 a0_0, .int .i64 a0_1, .int .i64 a0_2, .int .i64 a0_3, (.slice A0_4 l0_4.length c0_4), (.slice A0_5 l0_5.length c0_5)] 31 (0, 0))) ∧ Aside0 (w'.heap[gb135]? = some (.cells #[.int .i64 a1_0, .int .i64 a1_1, .int .i64 a1_2, .int .i64 a1_3, (.slice A1_4 l1_4.length c1_4), (.slice A1_5 l1_5.length c1_5)] 31 (0, 0))) ∧ Aside0 (Below w.heap.size w w'))
              case atStart => exact ⟨(0), (by first | rfl | (simp; done) | (simp [*]; done)), H', ⟨Nat.le_refl _⟩, ⟨by (with_reducible repeat (first | refine blk_drewN ?_ _ | refine blk_drew ?_ | refine blk_alloc ?_ _)); exact BK134.out⟩, ⟨by (with_reducible repeat (first | refine blk_drewN ?_ _ | refine blk_drew ?_ | refine blk_alloc ?_ _)); exact BK135.out⟩, ⟨by repeat (first | (with_reducible first | exact HB.out | apply below_alloc | apply pw_below_drewN | apply below_drew1 | refine below_set ?_ GE134.out | refine below_set ?_ GE135.out) | exact HB.out)⟩⟩
              case round =>
                clear H'
                try clear c1
                try clear p1
                try clear q1
                try clear hx1
                try clear c2
                try clear p2
                try clear c3
                try clear c6
                try clear c6b0
                try clear p6
                try clear c7
                try clear c10
                try clear c10b0
                try clear c10b1
                try clear c10b2
                try clear c11
                try clear p13
                try clear q13
                try clear hx13
                try clear c14
                try clear c17
                try clear c18
                try clear c18b0
                try clear c19
                try clear c19b0
                try clear c20
                try clear c20b0
                try clear c21
                try clear c21b0
                try clear c22
                try clear c25
                try clear c28
                try clear hcz12_0
                try clear hcz12_1
                try clear hcz12_2
                try clear hcz12_3
                try clear hcz12_4
                try clear hcz12_5
                try clear hcz13_0
                try clear hcz13_1
                try clear hcz13_2
                try clear hcz13_3
                try clear hcz13_4
                try clear hcz13_5
                try clear hcz15_0
                try clear hcz15_1
                try clear hcz15_2
                try clear hcz15_3
                try clear hcz15_4
                try clear hcz15_5
                try clear hcz16_0
                try clear hcz16_1
                try clear hcz16_2
                try clear hcz16_3
                try clear hcz16_4
                try clear hcz16_5
                try clear hcz23_0
                try clear hcz23_1
                try clear hcz23_2
                try clear hcz23_3
                try clear hcz23_4
                try clear hcz23_5
                try clear hcz24_0
                try clear hcz24_1
                try clear hcz24_2
                try clear hcz24_3
                try clear hcz24_4
                try clear hcz24_5
                try clear hcz26_0
                try clear hcz26_1
                try clear hcz26_2
                try clear hcz26_3
                try clear hcz26_4
                try clear hcz26_5
                try clear hcz27_0
                try clear hcz27_1
                try clear hcz27_2
                try clear hcz27_3
                try clear hcz27_4
                try clear hcz27_5
                try clear hcz29_0
                try clear hcz29_1
                try clear hcz29_2
                try clear hcz29_3
                try clear hcz29_4
                try clear hcz29_5
                try clear hcz8_0
                try clear hcz8_1
                try clear hcz8_2
                try clear hcz8_3
                try clear hcz8_4
                try clear hcz8_5
                try clear hcz9_0
                try clear hcz9_1
                try clear hcz9_2
                try clear hcz9_3
                try clear hcz9_4
                try clear hcz9_5
                try clear hfz12_0
                try clear hfz12_1
                try clear hfz12_2
                try clear hfz12_3
                try clear hfz12_4
                try clear hfz12_5
                try clear hfz13_0
                try clear hfz13_1
                try clear hfz13_2
                try clear hfz13_3
                try clear hfz13_4
                try clear hfz13_5
                try clear hfz15_0
                try clear hfz15_1
                try clear hfz15_2
                try clear hfz15_3
                try clear hfz15_4
                try clear hfz15_5
                try clear hfz16_0
                try clear hfz16_1
                try clear hfz16_2
                try clear hfz16_3
                try clear hfz16_4
                try clear hfz16_5
                try clear hfz23_0
                try clear hfz23_1
                try clear hfz23_2
                try clear hfz23_3
                try clear hfz23_4
                try clear hfz23_5
                try clear hfz24_0
                try clear hfz24_1
                try clear hfz24_2
                try clear hfz24_3
                try clear hfz24_4
                try clear hfz24_5
                try clear hfz26_0
                try clear hfz26_1
                try clear hfz26_2
                try clear hfz26_3
                try clear hfz26_4
                try clear hfz26_5
                try clear hfz27_0
                try clear hfz27_1
                try clear hfz27_2
                try clear hfz27_3
                try clear hfz27_4
                try clear hfz27_5
                try clear hfz29_0
                try clear hfz29_1
                try clear hfz29_2
                try clear hfz29_3
                try clear hfz29_4
                try clear hfz29_5
                try clear hfz8_0
                try clear hfz8_1
                try clear hfz8_2
                try clear hfz8_3
                try clear hfz8_4
                try clear hfz8_5
                try clear hfz9_0
                try clear hfz9_1
                try clear hfz9_2
                try clear hfz9_3
                try clear hfz9_4
                try clear hfz9_5
                try clear hx136_0
                try clear hx136_1
                try clear hx137_0
                try clear hx137_1
                try clear p136
                try clear p137
                try clear p2
                try clear q136
                try clear q137
                obtain ⟨x6_3, rfl, HA, HK3, BK134, BK135, HB⟩ := hrel
                cases gk with
                | zero => exact absurd HA.out (by simp [gazetteerref13_Same.l1])
                | succ k3 =>
                  have H := HA.out
                  clear HA
                  simp only [gazetteerref13_Same.l1] at H
                  by_cases c30 : x6_3 < (l0_5.length : Int)
                  · rw [if_pos c30] at H
                    have c30b0 : decide (x6_3 < (l0_5.length : Int)) = true := decide_eq_true c30
                    clear c30
                    by_cases c31 : 0 ≤ x6_3
                    · rw [if_pos c31] at H
                      have c31b0 : decide (0 ≤ x6_3) = true := decide_eq_true c31
                      clear c31
                      by_cases c32 : x6_3 < (l1_5.length : Int)
                      · rw [if_pos c32] at H
                        have c32b0 : decide (x6_3 < (l1_5.length : Int)) = true := decide_eq_true c32
                        clear c32
                        by_cases c33 : (rd l0_5 x6_3) = (rd l1_5 x6_3)
                        · rw [if_pos c33] at H
                          have c33b0 : ((rd l0_5 x6_3) == (rd l1_5 x6_3)) = true := beq_iff_eq.mpr c33
                          have c33b1 : ((rd l0_5 x6_3) != (rd l1_5 x6_3)) = false := bne_eq_false_iff_eq.mpr c33
                          clear c33
                          have H' := Aside0.mk H
                          clear H
                          have hnb34 := NB134_135.out
                          have hnc34 := NB135_134.out
                          have hcz35_0 : wr.cell? ⟨gb134, 0, none⟩ = some (.int .i64 a0_0) := (blk_cell BK134.out 0).trans rfl
                          have hcz35_1 : wr.cell? ⟨gb134, 1, none⟩ = some (.int .i64 a0_1) := (blk_cell BK134.out 1).trans rfl
                          have hcz35_2 : wr.cell? ⟨gb134, 2, none⟩ = some (.int .i64 a0_2) := (blk_cell BK134.out 2).trans rfl
                          have hcz35_3 : wr.cell? ⟨gb134, 3, none⟩ = some (.int .i64 a0_3) := (blk_cell BK134.out 3).trans rfl
                          have hcz35_4 : wr.cell? ⟨gb134, 4, none⟩ = some (.slice A0_4 l0_4.length c0_4) := (blk_cell BK134.out 4).trans rfl
                          have hcz35_5 : wr.cell? ⟨gb134, 5, none⟩ = some (.slice A0_5 l0_5.length c0_5) := (blk_cell BK134.out 5).trans rfl
                          have hfz35_0 := blk_frozen BK134.out 0
                          have hfz35_1 := blk_frozen BK134.out 1
                          have hfz35_2 := blk_frozen BK134.out 2
                          have hfz35_3 := blk_frozen BK134.out 3
                          have hfz35_4 := blk_frozen BK134.out 4
                          have hfz35_5 := blk_frozen BK134.out 5
                          have p138 : 0 ≤ (x6_3 : Int) := of_decide_eq_true (by first | (with_reducible assumption) | assumption)
                          have q138 : x6_3 < (l0_5.length : Int) := of_decide_eq_true (by first | (with_reducible assumption) | assumption)
                          obtain ⟨ad138, e138, hx138_0⟩ := Kd.at_int HR0_5.out x6_3 p138 q138
                          cases e138
                          replace hx138_0 := (HB.out.cell (World.block_lt_of_cell? w _ hx138_0)).trans hx138_0
                          replace p138 := eq_true p138
                          replace q138 := eq_true q138
                          have hcz36_0 : wr.cell? ⟨gb135, 0, none⟩ = some (.int .i64 a1_0) := (blk_cell BK135.out 0).trans rfl
                          have hcz36_1 : wr.cell? ⟨gb135, 1, none⟩ = some (.int .i64 a1_1) := (blk_cell BK135.out 1).trans rfl
                          have hcz36_2 : wr.cell? ⟨gb135, 2, none⟩ = some (.int .i64 a1_2) := (blk_cell BK135.out 2).trans rfl
                          have hcz36_3 : wr.cell? ⟨gb135, 3, none⟩ = some (.int .i64 a1_3) := (blk_cell BK135.out 3).trans rfl
                          have hcz36_4 : wr.cell? ⟨gb135, 4, none⟩ = some (.slice A1_4 l1_4.length c1_4) := (blk_cell BK135.out 4).trans rfl
                          have hcz36_5 : wr.cell? ⟨gb135, 5, none⟩ = some (.slice A1_5 l1_5.length c1_5) := (blk_cell BK135.out 5).trans rfl
                          have hfz36_0 := blk_frozen BK135.out 0
                          have hfz36_1 := blk_frozen BK135.out 1
                          have hfz36_2 := blk_frozen BK135.out 2
                          have hfz36_3 := blk_frozen BK135.out 3
                          have hfz36_4 := blk_frozen BK135.out 4
                          have hfz36_5 := blk_frozen BK135.out 5
                          have p139 : 0 ≤ (x6_3 : Int) := of_decide_eq_true (by first | (with_reducible assumption) | assumption)
                          have q139 : x6_3 < (l1_5.length : Int) := of_decide_eq_true (by first | (with_reducible assumption) | assumption)
                          obtain ⟨ad139, e139, hx139_0⟩ := Kd.at_int HR1_5.out x6_3 p139 q139
                          cases e139
                          replace hx139_0 := (HB.out.cell (World.block_lt_of_cell? w _ hx139_0)).trans hx139_0
                          replace p139 := eq_true p139
                          replace q139 := eq_true q139
                          go_wp2
                          repeat (go_quiet (fail); try go_wp2)
                          go_roundg k3
                          case measure => have := HJ2.out; have := HK2.out; have := HK3.out; omega
                          case rel => exact ⟨(wrap64 (x6_3 + 1)), (by first | rfl | (simp; done) | (simp [*]; done)), H', ⟨by have := HJ2.out; have := HK2.out; have := HK3.out; omega⟩, ⟨by (with_reducible repeat (first | refine blk_drewN ?_ _ | refine blk_drew ?_ | refine blk_alloc ?_ _)); exact BK134.out⟩, ⟨by (with_reducible repeat (first | refine blk_drewN ?_ _ | refine blk_drew ?_ | refine blk_alloc ?_ _)); exact BK135.out⟩, ⟨by repeat (first | (with_reducible first | exact HB.out | apply below_alloc | apply pw_below_drewN | apply below_drew1 | refine below_set ?_ GE134.out | refine below_set ?_ GE135.out) | exact HB.out)⟩⟩
                        · rw [if_neg c33] at H
                          have c33b0 : ((rd l0_5 x6_3) == (rd l1_5 x6_3)) = false := beq_eq_false_iff_ne.mpr c33
                          have c33b1 : ((rd l0_5 x6_3) != (rd l1_5 x6_3)) = true := bne_iff_ne.mpr c33
                          obtain rfl := Option.some.inj H
                          have hnb37 := NB134_135.out
                          have hnc37 := NB135_134.out
                          have hcz38_0 : wr.cell? ⟨gb134, 0, none⟩ = some (.int .i64 a0_0) := (blk_cell BK134.out 0).trans rfl
                          have hcz38_1 : wr.cell? ⟨gb134, 1, none⟩ = some (.int .i64 a0_1) := (blk_cell BK134.out 1).trans rfl
                          have hcz38_2 : wr.cell? ⟨gb134, 2, none⟩ = some (.int .i64 a0_2) := (blk_cell BK134.out 2).trans rfl
                          have hcz38_3 : wr.cell? ⟨gb134, 3, none⟩ = some (.int .i64 a0_3) := (blk_cell BK134.out 3).trans rfl
                          have hcz38_4 : wr.cell? ⟨gb134, 4, none⟩ = some (.slice A0_4 l0_4.length c0_4) := (blk_cell BK134.out 4).trans rfl
                          have hcz38_5 : wr.cell? ⟨gb134, 5, none⟩ = some (.slice A0_5 l0_5.length c0_5) := (blk_cell BK134.out 5).trans rfl
                          have hfz38_0 := blk_frozen BK134.out 0
                          have hfz38_1 := blk_frozen BK134.out 1
                          have hfz38_2 := blk_frozen BK134.out 2
                          have hfz38_3 := blk_frozen BK134.out 3
                          have hfz38_4 := blk_frozen BK134.out 4
                          have hfz38_5 := blk_frozen BK134.out 5
                          have p138 : 0 ≤ (x6_3 : Int) := of_decide_eq_true (by first | (with_reducible assumption) | assumption)
                          have q138 : x6_3 < (l0_5.length : Int) := of_decide_eq_true (by first | (with_reducible assumption) | assumption)
                          obtain ⟨ad138, e138, hx138_0⟩ := Kd.at_int HR0_5.out x6_3 p138 q138
                          cases e138
                          replace hx138_0 := (HB.out.cell (World.block_lt_of_cell? w _ hx138_0)).trans hx138_0
                          replace p138 := eq_true p138
                          replace q138 := eq_true q138
                          have hcz39_0 : wr.cell? ⟨gb135, 0, none⟩ = some (.int .i64 a1_0) := (blk_cell BK135.out 0).trans rfl
                          have hcz39_1 : wr.cell? ⟨gb135, 1, none⟩ = some (.int .i64 a1_1) := (blk_cell BK135.out 1).trans rfl
                          have hcz39_2 : wr.cell? ⟨gb135, 2, none⟩ = some (.int .i64 a1_2) := (blk_cell BK135.out 2).trans rfl
                          have hcz39_3 : wr.cell? ⟨gb135, 3, none⟩ = some (.int .i64 a1_3) := (blk_cell BK135.out 3).trans rfl
                          have hcz39_4 : wr.cell? ⟨gb135, 4, none⟩ = some (.slice A1_4 l1_4.length c1_4) := (blk_cell BK135.out 4).trans rfl
                          have hcz39_5 : wr.cell? ⟨gb135, 5, none⟩ = some (.slice A1_5 l1_5.length c1_5) := (blk_cell BK135.out 5).trans rfl
                          have hfz39_0 := blk_frozen BK135.out 0
                          have hfz39_1 := blk_frozen BK135.out 1
                          have hfz39_2 := blk_frozen BK135.out 2
                          have hfz39_3 := blk_frozen BK135.out 3
                          have hfz39_4 := blk_frozen BK135.out 4
                          have hfz39_5 := blk_frozen BK135.out 5
                          have p139 : 0 ≤ (x6_3 : Int) := of_decide_eq_true (by first | (with_reducible assumption) | assumption)
                          have q139 : x6_3 < (l1_5.length : Int) := of_decide_eq_true (by first | (with_reducible assumption) | assumption)
                          obtain ⟨ad139, e139, hx139_0⟩ := Kd.at_int HR1_5.out x6_3 p139 q139
                          cases e139
                          replace hx139_0 := (HB.out.cell (World.block_lt_of_cell? w _ hx139_0)).trans hx139_0
                          replace p139 := eq_true p139
                          replace q139 := eq_true q139
                          go_wp2
                          repeat (go_quiet (fail); try go_wp2)
                          go_ret
                          exact ⟨by first | rfl | (simp [errW_none, errW_some] <;> rfl) | (simp [*, errW_none, errW_some] <;> rfl), by repeat (first | (with_reducible first | exact HB.out | apply below_alloc | apply pw_below_drewN | apply below_drew1 | refine below_set ?_ GE134.out | refine below_set ?_ GE135.out) | exact HB.out)⟩
                      · rw [if_neg c32] at H
                        exact absurd H (by simp)
                    · rw [if_neg c31] at H
                      exact absurd H (by simp)
                  · rw [if_neg c30] at H
                    have c30b0 : decide (x6_3 < (l0_5.length : Int)) = false := decide_eq_false c30
                    clear c30
                    obtain rfl := Option.some.inj H
                    have hnb40 := NB134_135.out
                    have hnc40 := NB135_134.out
                    have hcz41_0 : wr.cell? ⟨gb134, 0, none⟩ = some (.int .i64 a0_0) := (blk_cell BK134.out 0).trans rfl
                    have hcz41_1 : wr.cell? ⟨gb134, 1, none⟩ = some (.int .i64 a0_1) := (blk_cell BK134.out 1).trans rfl
                    have hcz41_2 : wr.cell? ⟨gb134, 2, none⟩ = some (.int .i64 a0_2) := (blk_cell BK134.out 2).trans rfl
                    have hcz41_3 : wr.cell? ⟨gb134, 3, none⟩ = some (.int .i64 a0_3) := (blk_cell BK134.out 3).trans rfl
                    have hcz41_4 : wr.cell? ⟨gb134, 4, none⟩ = some (.slice A0_4 l0_4.length c0_4) := (blk_cell BK134.out 4).trans rfl
                    have hcz41_5 : wr.cell? ⟨gb134, 5, none⟩ = some (.slice A0_5 l0_5.length c0_5) := (blk_cell BK134.out 5).trans rfl
                    have hfz41_0 := blk_frozen BK134.out 0
                    have hfz41_1 := blk_frozen BK134.out 1
                    have hfz41_2 := blk_frozen BK134.out 2
                    have hfz41_3 := blk_frozen BK134.out 3
                    have hfz41_4 := blk_frozen BK134.out 4
                    have hfz41_5 := blk_frozen BK134.out 5
                    go_wp2
                    repeat (go_quiet (fail); try go_wp2)
                    go_ret
                    exact ⟨by first | rfl | (simp [errW_none, errW_some] <;> rfl) | (simp [*, errW_none, errW_some] <;> rfl), by repeat (first | (with_reducible first | exact HB.out | apply below_alloc | apply pw_below_drewN | apply below_drew1 | refine below_set ?_ GE134.out | refine below_set ?_ GE135.out) | exact HB.out)⟩
end Go.Proofs.YtiamkgoajkfofaaDoor.S
end
