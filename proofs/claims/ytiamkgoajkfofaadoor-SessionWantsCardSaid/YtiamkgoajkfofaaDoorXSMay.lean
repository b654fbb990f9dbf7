/- What the row of this claim reaches. No condition. -/
import Derived.Test.YtiamkgoajkfofaaDoorXSPure3
set_option linter.unusedVariables false
set_option linter.unusedSimpArgs false
namespace Go.Proofs.YtiamkgoajkfofaaDoor.S
open Go.RowKit Go.Proofs.YtiamkgoajkfofaaDoorW.PrintWords Go.Proofs.YtiamkgoajkfofaaDoorW.PrintLast Go.Proofs.YtiamkgoajkfofaaDoorW.PrintMore
def Okk (s : S33) : Prop := Lens s ∧ ∀ x ∈ s.f6.f2, 0 ≤ x
set_option maxHeartbeats 4000000 in
set_option maxRecDepth 100000 in
theorem may_any (s : S33) (p : Pt) (w : World) (hk : Okk s) (hT : TabIs w) (hi : In w s p) :
    Calls Tryd.prog 29 #[.agg (sv s p)] w fun e w' => e = .returned (.bool (mayB s)) ∧ Below w.heap.size w w' := by
  obtain ⟨W, hW⟩ : ∃ W, w.alloc (.cells (sv s p) 33) = W := ⟨_, rfl⟩
  have b : Blk W w.heap.size 33 (sv s p) := by rw [← hW]; exact Blk.new w 33 _
  have hB : Below w.heap.size w W := by rw [← hW]; exact keep_below_alloc _ (Below.refl _ _)
  have HW := Lib.hid hW
  clear hW
  go_enter Tryd.func29, Tryd.ntmps29
  go_upto_region 1 with fail
  rw [HW.out]
  have hi' := hi.below hB
  have hT' : TabIs W := TabIs.below hT hB
  clear hi hT HW
  have c0 := sc0 b
  have c1 := sc1 b
  have c2 := sc2 b
  have c3 := sc3 b
  obtain ⟨t, ht⟩ : ∃ t, txnB s = t := ⟨_, rfl⟩
  obtain ⟨i, hidl⟩ : ∃ i, idleB s = i := ⟨_, rfl⟩
  have HX := Lib.hid (And.intro ht hidl)
  go_cut [3] (fun v wx => v = .bool t ∧ wx = W)
  case first =>
    subst ht
    clear HX hidl
    by_cases h1 : 0 < s.f1 <;> cases h2 : s.f2 <;> by_cases h3 : s.f3 = 0 <;> (
      (first | (have d1 := decide_eq_true h1; have d1' : decide (s.f1 > 0) = true := d1) | (have d1 := decide_eq_false h1; have d1' : decide (s.f1 > 0) = false := d1))
      (first | have d3 : (s.f3 == 0) = true := beq_iff_eq.mpr h3 | have d3 : (s.f3 == 0) = false := beq_eq_false_iff_ne.mpr h3)
      rw [h2] at c2
      clear h1 h3
      go_wp2
      go_meet
      exact ⟨by simp [txnB, d1, d3, h2], rfl⟩)
  case rest =>
  obtain ⟨rfl, hwc⟩ := hcut
  rw [hwc]
  clear hwc
  go_upto_region 2 with fail
  go_cut [4] (fun v wx => v = .bool i ∧ wx = W)
  case first =>
    subst hidl
    clear HX ht
    by_cases h1 : s.f1 = 0 <;> cases h2 : s.f2 <;> by_cases h3 : s.f3 = 0 <;> (
      (first | have d1 : (s.f1 == 0) = true := beq_iff_eq.mpr h1 | have d1 : (s.f1 == 0) = false := beq_eq_false_iff_ne.mpr h1)
      (first | have d3 : (s.f3 == 0) = true := beq_iff_eq.mpr h3 | have d3 : (s.f3 == 0) = false := beq_eq_false_iff_ne.mpr h3)
      rw [h2] at c2
      clear h1 h3
      go_wp2
      go_meet
      exact ⟨by simp [idleB, d1, d3, h2], rfl⟩)
  case rest =>
  obtain ⟨rfl, hwc⟩ := hcut
  rw [hwc]
  clear hwc
  have hm : mayB s = (if s.f0 = 1 then i && bareB s else if s.f0 = 2 then t && bareB s else if s.f0 = 3 then busyB s t i else false) := by unfold mayB; rw [ht, hidl]
  have Hm := Lib.hid hm
  clear hm ht hidl HX c1 c2 c3
  by_cases s1 : s.f0 = 1
  · have e1 : (s.f0 == 1) = true := beq_iff_eq.mpr s1
    have Hv := Lib.hid (show mayB s = (i && bareB s) by rw [Hm.out, if_pos s1])
    clear s1
    obtain ⟨k, hkb⟩ := Ev.rounds (bare_ev s hk.1)
    have HC := bare_c hkb hi'
    cases i
    · go_upto_region 5 with fail
      refine wp_region_list ?_
      refine pl_val (N := some 34) (v := ?_) (a' := ?_) rfl (by rfl) ?_ ?_ ?_
      rotate_left
      · go_simp
        with_reducible rfl
      rotate_left
      · simp only [Act.put, List.setIfInBounds_toArray, List.set_cons_zero, List.set_cons_succ, i64_w, i32_w]
        rfl
      refine pl_val (N := some 35) (v := ?_) (a' := ?_) rfl (by rfl) ?_ ?_ ?_
      rotate_left
      · go_simp
        with_reducible rfl
      rotate_left
      · simp only [Act.put, List.setIfInBounds_toArray, List.set_cons_zero, List.set_cons_succ, i64_w, i32_w]
        rfl
      refine pl_off (N := some 36) (a' := ?_) rfl (by rfl) ?_ ?_
      rotate_left
      · simp only [Act.put, List.setIfInBounds_toArray, List.set_cons_zero, List.set_cons_succ, i64_w, i32_w]
        rfl
      refine pl_off (N := some 37) (a' := ?_) rfl (by rfl) ?_ ?_
      rotate_left
      · simp only [Act.put, List.setIfInBounds_toArray, List.set_cons_zero, List.set_cons_succ, i64_w, i32_w]
        rfl
      refine pl_val (N := some 38) (v := ?_) (a' := ?_) rfl (by rfl) ?_ ?_ ?_
      rotate_left
      · go_simp
        with_reducible rfl
      rotate_left
      · simp only [Act.put, List.setIfInBounds_toArray, List.set_cons_zero, List.set_cons_succ, i64_w, i32_w]
        rfl
      refine pl_val (N := some 2) (v := ?_) (a' := ?_) rfl (by rfl) ?_ ?_ ?_
      rotate_left
      · go_simp
        with_reducible rfl
      rotate_left
      · simp only [Act.put, List.setIfInBounds_toArray, List.set_cons_zero, List.set_cons_succ, i64_w, i32_w]
        rfl
      refine wpList_nil ?_
      go_wp2
      go_ret
      exact ⟨by rw [Hv.out]; rfl, hB⟩
    · go_upto_region 5 with fail
      refine wp_region_list ?_
      refine pl_val (N := some 34) (v := ?_) (a' := ?_) rfl (by rfl) ?_ ?_ ?_
      rotate_left
      · go_simp
        with_reducible rfl
      rotate_left
      · simp only [Act.put, List.setIfInBounds_toArray, List.set_cons_zero, List.set_cons_succ, i64_w, i32_w]
        rfl
      refine pl_val (N := some 35) (v := ?_) (a' := ?_) rfl (by rfl) ?_ ?_ ?_
      rotate_left
      · go_simp
        with_reducible rfl
      rotate_left
      · simp only [Act.put, List.setIfInBounds_toArray, List.set_cons_zero, List.set_cons_succ, i64_w, i32_w]
        rfl
      refine pl_val (N := some 36) (v := .agg (sv s p)) (a' := ?_) rfl (by rfl) (load_row_run 33 _ rfl (w.heap.size) rfl 33 (sv s p) _ (b) Tryd.underlying33 rfl (by first | kernel_rfl | rfl)) ?_ ?_
      rotate_left
      · simp only [Act.put, List.setIfInBounds_toArray, List.set_cons_zero, List.set_cons_succ, i64_w, i32_w]
        rfl
      refine pl_call Tryd.func53 (by kernel_rfl) rfl #[.agg (sv s p)] (by rfl) rfl rfl (by (try simp only [List.map_toArray, List.map_cons, List.map_nil]); first | done | rfl) ?_
      refine HC.out.mono ?_
      rintro e w1 ⟨rfl, hb⟩
      refine ⟨_, rfl, ?_⟩
      refine pl_norm (a' := ?_) ?_ ?_
      rotate_left
      · first | (show Act.put _ (some 37) _ = _; simp only [Act.put, List.setIfInBounds_toArray, List.set_cons_zero, List.set_cons_succ, i64_w, i32_w]; rfl) | with_reducible rfl
      refine pl_val (N := some 38) (v := ?_) (a' := ?_) rfl (by rfl) ?_ ?_ ?_
      rotate_left
      · go_simp
        with_reducible rfl
      rotate_left
      · simp only [Act.put, List.setIfInBounds_toArray, List.set_cons_zero, List.set_cons_succ, i64_w, i32_w]
        rfl
      refine pl_val (N := some 2) (v := ?_) (a' := ?_) rfl (by rfl) ?_ ?_ ?_
      rotate_left
      · go_simp
        with_reducible rfl
      rotate_left
      · simp only [Act.put, List.setIfInBounds_toArray, List.set_cons_zero, List.set_cons_succ, i64_w, i32_w]
        rfl
      refine wpList_nil ?_
      go_wp2
      go_ret
      exact ⟨by rw [Hv.out]; rfl, keep_below hB hb⟩
  have e1 : (s.f0 == 1) = false := beq_eq_false_iff_ne.mpr s1
  by_cases s2 : s.f0 = 2
  · have e2 : (s.f0 == 2) = true := beq_iff_eq.mpr s2
    have Hv := Lib.hid (show mayB s = (t && bareB s) by rw [Hm.out, if_neg s1, if_pos s2])
    clear s2 s1
    obtain ⟨k, hkb⟩ := Ev.rounds (bare_ev s hk.1)
    have HC := bare_c hkb hi'
    cases t
    · go_upto_region 7 with fail
      refine wp_region_list ?_
      refine pl_val (N := some 41) (v := ?_) (a' := ?_) rfl (by rfl) ?_ ?_ ?_
      rotate_left
      · go_simp
        with_reducible rfl
      rotate_left
      · simp only [Act.put, List.setIfInBounds_toArray, List.set_cons_zero, List.set_cons_succ, i64_w, i32_w]
        rfl
      refine pl_val (N := some 42) (v := ?_) (a' := ?_) rfl (by rfl) ?_ ?_ ?_
      rotate_left
      · go_simp
        with_reducible rfl
      rotate_left
      · simp only [Act.put, List.setIfInBounds_toArray, List.set_cons_zero, List.set_cons_succ, i64_w, i32_w]
        rfl
      refine pl_off (N := some 43) (a' := ?_) rfl (by rfl) ?_ ?_
      rotate_left
      · simp only [Act.put, List.setIfInBounds_toArray, List.set_cons_zero, List.set_cons_succ, i64_w, i32_w]
        rfl
      refine pl_off (N := some 44) (a' := ?_) rfl (by rfl) ?_ ?_
      rotate_left
      · simp only [Act.put, List.setIfInBounds_toArray, List.set_cons_zero, List.set_cons_succ, i64_w, i32_w]
        rfl
      refine pl_val (N := some 45) (v := ?_) (a' := ?_) rfl (by rfl) ?_ ?_ ?_
      rotate_left
      · go_simp
        with_reducible rfl
      rotate_left
      · simp only [Act.put, List.setIfInBounds_toArray, List.set_cons_zero, List.set_cons_succ, i64_w, i32_w]
        rfl
      refine pl_val (N := some 2) (v := ?_) (a' := ?_) rfl (by rfl) ?_ ?_ ?_
      rotate_left
      · go_simp
        with_reducible rfl
      rotate_left
      · simp only [Act.put, List.setIfInBounds_toArray, List.set_cons_zero, List.set_cons_succ, i64_w, i32_w]
        rfl
      refine wpList_nil ?_
      go_wp2
      go_ret
      exact ⟨by rw [Hv.out]; rfl, hB⟩
    · go_upto_region 7 with fail
      refine wp_region_list ?_
      refine pl_val (N := some 41) (v := ?_) (a' := ?_) rfl (by rfl) ?_ ?_ ?_
      rotate_left
      · go_simp
        with_reducible rfl
      rotate_left
      · simp only [Act.put, List.setIfInBounds_toArray, List.set_cons_zero, List.set_cons_succ, i64_w, i32_w]
        rfl
      refine pl_val (N := some 42) (v := ?_) (a' := ?_) rfl (by rfl) ?_ ?_ ?_
      rotate_left
      · go_simp
        with_reducible rfl
      rotate_left
      · simp only [Act.put, List.setIfInBounds_toArray, List.set_cons_zero, List.set_cons_succ, i64_w, i32_w]
        rfl
      refine pl_val (N := some 43) (v := .agg (sv s p)) (a' := ?_) rfl (by rfl) (load_row_run 33 _ rfl (w.heap.size) rfl 33 (sv s p) _ (b) Tryd.underlying33 rfl (by first | kernel_rfl | rfl)) ?_ ?_
      rotate_left
      · simp only [Act.put, List.setIfInBounds_toArray, List.set_cons_zero, List.set_cons_succ, i64_w, i32_w]
        rfl
      refine pl_call Tryd.func53 (by kernel_rfl) rfl #[.agg (sv s p)] (by rfl) rfl rfl (by (try simp only [List.map_toArray, List.map_cons, List.map_nil]); first | done | rfl) ?_
      refine HC.out.mono ?_
      rintro e w1 ⟨rfl, hb⟩
      refine ⟨_, rfl, ?_⟩
      refine pl_norm (a' := ?_) ?_ ?_
      rotate_left
      · first | (show Act.put _ (some 44) _ = _; simp only [Act.put, List.setIfInBounds_toArray, List.set_cons_zero, List.set_cons_succ, i64_w, i32_w]; rfl) | with_reducible rfl
      refine pl_val (N := some 45) (v := ?_) (a' := ?_) rfl (by rfl) ?_ ?_ ?_
      rotate_left
      · go_simp
        with_reducible rfl
      rotate_left
      · simp only [Act.put, List.setIfInBounds_toArray, List.set_cons_zero, List.set_cons_succ, i64_w, i32_w]
        rfl
      refine pl_val (N := some 2) (v := ?_) (a' := ?_) rfl (by rfl) ?_ ?_ ?_
      rotate_left
      · go_simp
        with_reducible rfl
      rotate_left
      · simp only [Act.put, List.setIfInBounds_toArray, List.set_cons_zero, List.set_cons_succ, i64_w, i32_w]
        rfl
      refine wpList_nil ?_
      go_wp2
      go_ret
      exact ⟨by rw [Hv.out]; rfl, keep_below hB hb⟩
  have e2 : (s.f0 == 2) = false := beq_eq_false_iff_ne.mpr s2
  by_cases s3 : s.f0 = 3
  · have e3 : (s.f0 == 3) = true := beq_iff_eq.mpr s3
    have Hv := Lib.hid (show mayB s = busyB s t i by rw [Hm.out, if_neg s1, if_neg s2, if_pos s3])
    clear s1 s2 s3
    obtain ⟨k, hkb⟩ := Ev.rounds (busy_ev s t i hk.1 hk.2)
    have HC := busy_c hkb hT' hi'
    go_upto_region 9 with fail
    refine wp_region_list ?_
    refine pl_val (N := some 48) (v := .agg (sv s p)) (a' := ?_) rfl (by rfl) (load_row_run 33 _ rfl (w.heap.size) rfl 33 (sv s p) _ (b) Tryd.underlying33 rfl (by first | kernel_rfl | rfl)) ?_ ?_
    rotate_left
    · simp only [Act.put, List.setIfInBounds_toArray, List.set_cons_zero, List.set_cons_succ, i64_w, i32_w]
      rfl
    refine pl_val (N := some 49) (v := ?_) (a' := ?_) rfl (by rfl) ?_ ?_ ?_
    rotate_left
    · go_simp
      with_reducible rfl
    rotate_left
    · simp only [Act.put, List.setIfInBounds_toArray, List.set_cons_zero, List.set_cons_succ, i64_w, i32_w]
      rfl
    refine pl_val (N := some 50) (v := ?_) (a' := ?_) rfl (by rfl) ?_ ?_ ?_
    rotate_left
    · go_simp
      with_reducible rfl
    rotate_left
    · simp only [Act.put, List.setIfInBounds_toArray, List.set_cons_zero, List.set_cons_succ, i64_w, i32_w]
      rfl
    refine pl_call Tryd.func54 (by kernel_rfl) rfl #[.agg (sv s p), .bool t, .bool i] (by rfl) rfl rfl (by (try simp only [List.map_toArray, List.map_cons, List.map_nil]); first | done | rfl) ?_
    refine HC.out.mono ?_
    rintro e w1 ⟨rfl, hb⟩
    refine ⟨_, rfl, ?_⟩
    refine pl_norm (a' := ?_) ?_ ?_
    rotate_left
    · first | (show Act.put _ (some 51) _ = _; simp only [Act.put, List.setIfInBounds_toArray, List.set_cons_zero, List.set_cons_succ, i64_w, i32_w]; rfl) | with_reducible rfl
    refine pl_val (N := some 2) (v := ?_) (a' := ?_) rfl (by rfl) ?_ ?_ ?_
    rotate_left
    · go_simp
      with_reducible rfl
    rotate_left
    · simp only [Act.put, List.setIfInBounds_toArray, List.set_cons_zero, List.set_cons_succ, i64_w, i32_w]
      rfl
    refine wpList_nil ?_
    go_wp2
    go_ret
    exact ⟨by rw [Hv.out]; rfl, keep_below hB hb⟩
  · have e3 : (s.f0 == 3) = false := beq_eq_false_iff_ne.mpr s3
    have Hv := Lib.hid (show mayB s = false by rw [Hm.out, if_neg s1, if_neg s2, if_neg s3])
    clear s1 s2 s3
    go_wp2
    go_ret
    exact ⟨by rw [Hv.out]; rfl, hB⟩
end Go.Proofs.YtiamkgoajkfofaaDoor.S
