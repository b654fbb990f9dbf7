/- What the row of this claim reaches. No condition. -/
import Derived.Test.YtiamkgoajkfofaaDoorXSClos2
set_option linter.unusedVariables false
set_option linter.unusedSimpArgs false
namespace Go.Proofs.YtiamkgoajkfofaaDoor.S
open Go.RowKit Go.Proofs.YtiamkgoajkfofaaDoorW.PrintWords Go.Proofs.YtiamkgoajkfofaaDoorW.PrintLast Go.Proofs.YtiamkgoajkfofaaDoorW.PrintMore
def beganB (s : S33) (txn snap : Int) : Bool := (decide (0 < txn) && ((snap == 0) || s.f4.f1)) && (wantT s).1 == 1
def grantedB (s : S33) : Bool := (wantT s).1 == 2
def endedB (s : S33) (over : Bool) : Bool := over || !((wantT s).1 == 5 || ((wantT s).1 == 6 || ((wantT s).1 == 2 || (wantT s).1 == 1)))
theorem want_tab (s : S33) : (wantT s).1 = tabF s.f4.f0 s.f5 := by
  unfold wantT wantF
  by_cases h : tabF s.f4.f0 s.f5 = 2
  · rw [if_pos h, h]
    split <;> rfl
  · rw [if_neg h]
set_option maxHeartbeats 4000000 in
set_option maxRecDepth 100000 in
theorem began_any (s : S33) (p : Pt) (txn snap : Int) (w : World) (hk : Okk s) (hT : TabIs w) (hi : In w s p) :
    Calls Tryd.prog 20 #[.agg (sv s p), .int .u64 txn, .int .u64 snap] w fun e w' => ∃ p', e = .returned (.tuple #[.agg (sv (turnS s (beganB s txn snap) (beganS s txn snap)) p'), .int .i64 (turnE s (beganB s txn snap))]) ∧ InR w' w.heap.size (turnS s (beganB s txn snap) (beganS s txn snap)) p' ∧ Below w.heap.size w w' := by
  obtain ⟨W, hW⟩ : ∃ W, (((w.alloc (.cells (sv s p) 33)).alloc (.cells #[.int .u64 txn] 22)).alloc (.cells #[.int .u64 snap] 22)).alloc (.cells #[.int .i64 0, .int .u64 0, .bool false, .int .u64 0, .int .i64 0, .bool false, .int .u32 0, .int .i64 0, .int .i64 0, .int .i64 0, .int .i64 0, .int .i64 0, .int .i64 0, .int .i64 0, .int .i64 0, .int .i64 0, .int .i64 0, .slice none 0 0, .slice none 0 0, .slice none 0 0] 33) = W := ⟨_, rfl⟩
  have b3 : Blk W w.heap.size 33 (sv s p) := by rw [← hW]; exact (((Blk.new w 33 _).alloc _).alloc _).alloc _
  have b4 : Blk W (w.heap.size + 1) 22 #[.int .u64 txn] := by rw [← hW]; exact Blk.alloc (Blk.alloc (Blk.newAt (by simp)) _) _
  have b5 : Blk W (w.heap.size + 1 + 1) 22 #[.int .u64 snap] := by rw [← hW]; exact Blk.alloc (Blk.newAt (by simp)) _
  have b6 : Blk W (w.heap.size + 1 + 1 + 1) 33 (sv z33 p0) := by rw [← hW]; exact Blk.newAt (by simp)
  have hB : Below w.heap.size w W := by rw [← hW]; exact keep_below_alloc _ (keep_below_alloc _ (keep_below_alloc _ (keep_below_alloc _ (Below.refl _ _))))
  have hWs : W.heap.size = w.heap.size + 1 + 1 + 1 + 1 := by rw [← hW]; simp
  have HI := Lib.hid (hi.below hB)
  have HT := Lib.hid (TabIs.below hT hB)
  have HW := Lib.hid hW
  have HWs := Lib.hid hWs
  clear hW hT hi hWs
  have c4 := b4.cell 0
  have c5 := b5.cell 0
  simp at c4 c5
  have k5 := sc5 b3
  obtain ⟨ok, hok⟩ : ∃ ok, (decide (0 < txn) && ((snap == 0) || s.f4.f1)) = ok := ⟨_, rfl⟩
  have HOK := Lib.hid hok
  go_enter Tryd.func20, Tryd.ntmps20
  go_upto_region 1 with fail
  rw [HW.out]
  clear HW
  go_cut [8] (fun v wx => v = .pointer (some ⟨W.heap.size, 0, none⟩) ∧ wx = W.alloc (.cells #[.bool ok] 4))
  case first =>
    subst hok
    clear HOK
    by_cases h1 : 0 < txn <;> cases h2 : s.f4.f1 <;> by_cases h3 : snap = 0 <;> (
      (first | (have d1 := decide_eq_true h1; have d1' : decide (txn > 0) = true := d1) | (have d1 := decide_eq_false h1; have d1' : decide (txn > 0) = false := d1))
      (first | have d3 : (snap == 0) = true := beq_iff_eq.mpr h3 | have d3 : (snap == 0) = false := beq_eq_false_iff_ne.mpr h3)
      rw [h2] at k5
      clear h1 h3
      go_wp2
      go_meet
      exact ⟨rfl, by simp [d1, d3, h2]⟩)
  case rest =>
  obtain ⟨rfl, hwc⟩ := hcut
  rw [hwc]
  clear hwc hok
  have d3 := b3.alloc (.cells #[.bool ok] 4)
  have d6 := b6.alloc (.cells #[.bool ok] 4)
  have e4 := keep_alloc (.cells #[.bool ok] 4) c4
  have e5 := keep_alloc (.cells #[.bool ok] 4) c5
  have e8 : (W.alloc (.cells #[.bool ok] 4)).cell? ⟨W.heap.size, 0, none⟩ = some (.bool ok) := ((Blk.new W 4 #[.bool ok]).cell 0).trans rfl
  have hB1 := keep_below_alloc (.cells #[.bool ok] 4) hB
  have hle := keep_below_alloc (.cells #[.bool ok] 4) (Below.refl W.heap.size W)
  have HT1 := Lib.hid (TabIs.below HT.out hle)
  have HI1 := Lib.hid (HI.out.below hle)
  have HZ1 := Lib.hid (show w.heap.size + 1 + 1 + 1 + 1 ≤ (W.alloc (.cells #[.bool ok] 4)).heap.size by have := hle.size; rw [HWs.out] at this; exact this)
  generalize hg8 : W.heap.size = g8 at e8 ⊢
  generalize W.alloc (.cells #[.bool ok] 4) = W1 at d3 d6 e4 e5 e8 hB1 HT1 HI1 HZ1 ⊢
  clear hle b3 b4 b5 b6 hB c4 c5 k5 HI HT HWs hg8
  go_upto_region 2 with fail
  refine wp_region_list ?_
  refine pl_val (N := some 20) (v := .agg (sv s p)) (a' := ?_) rfl (by rfl) (load_row_run 33 _ rfl (w.heap.size) rfl 33 (sv s p) _ (d3) Tryd.underlying33 rfl (by first | kernel_rfl | rfl)) ?_ ?_
  rotate_left
  · simp only [Act.put, List.setIfInBounds_toArray, List.set_cons_zero, List.set_cons_succ, i64_w, i32_w]
    rfl
  refine pl_val (N := some 21) (v := ?_) (a' := ?_) rfl (by rfl) ?_ ?_ ?_
  rotate_left
  · go_simp
    with_reducible rfl
  rotate_left
  · simp only [Act.put, List.setIfInBounds_toArray, List.set_cons_zero, List.set_cons_succ, i64_w, i32_w]
    rfl
  refine pl_val (N := some 22) (v := ?_) (a' := ?_) rfl (by rfl) ?_ ?_ ?_
  rotate_left
  · go_simp
    with_reducible rfl
  rotate_left
  · simp only [Act.put, List.setIfInBounds_toArray, List.set_cons_zero, List.set_cons_succ, i64_w, i32_w]
    rfl
  refine pl_call Tryd.func41 (by kernel_rfl) rfl #[.agg (sv s p), .func (.func 42) #[] #[.pointer (some ⟨g8, 0, none⟩)], .func (.func 43) #[] #[.pointer (some ⟨w.heap.size + 1, 0, none⟩), .pointer (some ⟨w.heap.size + 1 + 1, 0, none⟩)]] (by rfl) rfl rfl (by (try simp only [List.map_toArray, List.map_cons, List.map_nil]); first | done | rfl) ?_
  have hturn := turn_any s p 42 43 Tryd.f42 Tryd.f43 #[.pointer (some ⟨g8, 0, none⟩)] #[.pointer (some ⟨w.heap.size + 1, 0, none⟩), .pointer (some ⟨w.heap.size + 1 + 1, 0, none⟩)] (beganB s txn snap) (beganS s txn snap) W1 hk HT1.out HI1.out Tryd.func42 rfl rfl Tryd.func43 rfl rfl
    (fun _ W hW => by
      have := began1 (wantT s).1 (wantT s).2.1 (wantT s).2.2 ok g8 W (keep_cell hW e8)
      rw [← HOK.out] at this
      exact this)
    (fun _ _ W p' hW hb hO => by
      refine (began2 s p' txn snap W1.heap.size (w.heap.size + 1) (w.heap.size + 1 + 1) W hb (keep_cell hW e4) (keep_cell hW e5)).mono ?_
      rintro e w' ⟨rfl, h1, h2⟩
      exact ⟨rfl, h1, p0, h2, InR.zero w' _⟩)
  refine hturn.mono ?_
  clear hturn
  rintro e w2 ⟨p', rfl, hR, hb⟩
  refine ⟨_, rfl, ?_⟩
  have f6 := d6.keep hb
  have hB2 := keep_below hB1 hb
  have hZ := HZ1.out
  clear d3 d6 e4 e5 e8 hB1 hb HT1 HI1 HZ1
  refine pl_norm (a' := ?_) ?_ ?_
  rotate_left
  · first | (show Act.put _ (some 23) _ = _; simp only [Act.put, List.setIfInBounds_toArray, List.set_cons_zero, List.set_cons_succ, i64_w, i32_w]; rfl) | with_reducible rfl
  refine pl_val (N := some 24) (v := ?_) (a' := ?_) rfl (by rfl) ?_ ?_ ?_
  rotate_left
  · go_simp
    with_reducible rfl
  rotate_left
  · simp only [Act.put, List.setIfInBounds_toArray, List.set_cons_zero, List.set_cons_succ, i64_w, i32_w]
    rfl
  refine pl_val (N := some 25) (v := ?_) (a' := ?_) rfl (by rfl) ?_ ?_ ?_
  rotate_left
  · go_simp
    with_reducible rfl
  rotate_left
  · simp only [Act.put, List.setIfInBounds_toArray, List.set_cons_zero, List.set_cons_succ, i64_w, i32_w]
    rfl
  refine pl_skip (W' := _) rfl (by rfl) (store_row_run (g := w.heap.size + 1 + 1 + 1) 33 _ _ rfl rfl (cells := (sv (turnS s (beganB s txn snap) (beganS s txn snap)) p')) rfl 33 (f6) (by first | kernel_rfl | rfl) rfl (sv_one _ _)) ?_
  refine pl_val (N := some 7) (v := ?_) (a' := ?_) rfl (by rfl) ?_ ?_ ?_
  rotate_left
  · go_simp
    with_reducible rfl
  rotate_left
  · simp only [Act.put, List.setIfInBounds_toArray, List.set_cons_zero, List.set_cons_succ, i64_w, i32_w]
    rfl
  refine wpList_nil ?_
  go_wp2
  exact bodyPost_ret (v := .tuple #[.agg (sv (turnS s (beganB s txn snap) (beganS s txn snap)) p'), .int .i64 (turnE s (beganB s txn snap))]) (results_two Tryd.results20 _ _ (w.heap.size + 1 + 1 + 1) 33 (sv (turnS s (beganB s txn snap) (beganS s txn snap)) p') (0, 0) _ _ rfl rfl (Blk.row_ f6 _) Tryd.underlying33 rfl (by kernel_rfl)) rfl ⟨p', rfl, (hR.row (g := w.heap.size + 1 + 1 + 1) (by omega) _).lower (by omega), Below.row_ hB2 (by omega) _⟩
set_option maxHeartbeats 4000000 in
set_option maxRecDepth 100000 in
theorem granted_any (s : S33) (p : Pt) (w : World) (hk : Okk s) (hT : TabIs w) (hi : In w s p) :
    Calls Tryd.prog 26 #[.agg (sv s p)] w fun e w' => ∃ p', e = .returned (.tuple #[.agg (sv (turnS s (grantedB s) (grantedS s)) p'), .int .i64 (turnE s (grantedB s))]) ∧ InR w' w.heap.size (turnS s (grantedB s) (grantedS s)) p' ∧ Below w.heap.size w w' := by
  obtain ⟨W1, hW⟩ : ∃ W, (w.alloc (.cells (sv s p) 33)).alloc (.cells #[.int .i64 0, .int .u64 0, .bool false, .int .u64 0, .int .i64 0, .bool false, .int .u32 0, .int .i64 0, .int .i64 0, .int .i64 0, .int .i64 0, .int .i64 0, .int .i64 0, .int .i64 0, .int .i64 0, .int .i64 0, .int .i64 0, .slice none 0 0, .slice none 0 0, .slice none 0 0] 33) = W := ⟨_, rfl⟩
  have d3 : Blk W1 w.heap.size 33 (sv s p) := by rw [← hW]; exact (Blk.new w 33 _).alloc _
  have d6 : Blk W1 (w.heap.size + 1) 33 (sv z33 p0) := by rw [← hW]; exact Blk.newAt (by simp)
  have hB1 : Below w.heap.size w W1 := by rw [← hW]; exact keep_below_alloc _ (keep_below_alloc _ (Below.refl _ _))
  have HZ1 := Lib.hid (show w.heap.size + 1 + 1 ≤ W1.heap.size by rw [← hW]; simp)
  have HT1 := Lib.hid (TabIs.below hT hB1)
  have HI1 := Lib.hid (hi.below hB1)
  have HW := Lib.hid hW
  clear hW hT hi
  go_enter Tryd.func26, Tryd.ntmps26
  go_upto_region 1 with fail
  rw [HW.out]
  clear HW
  refine wp_region_list ?_
  refine pl_val (N := some 4) (v := .agg (sv s p)) (a' := ?_) rfl (by rfl) (load_row_run 33 _ rfl (w.heap.size) rfl 33 (sv s p) _ (d3) Tryd.underlying33 rfl (by first | kernel_rfl | rfl)) ?_ ?_
  rotate_left
  · simp only [Act.put, List.setIfInBounds_toArray, List.set_cons_zero, List.set_cons_succ, i64_w, i32_w]
    rfl
  refine pl_call Tryd.func41 (by kernel_rfl) rfl #[.agg (sv s p), .func (.func 49) #[] #[], .func (.func 50) #[] #[]] (by rfl) rfl rfl (by (try simp only [List.map_toArray, List.map_cons, List.map_nil]); first | done | rfl) ?_
  have hturn := turn_any s p 49 50 Tryd.f49 Tryd.f50 #[] #[] (grantedB s) (grantedS s) W1 hk HT1.out HI1.out Tryd.func49 rfl rfl Tryd.func50 rfl rfl
    (fun _ W hW => granted1 (wantT s).1 (wantT s).2.1 (wantT s).2.2 W)
    (fun h0 hb W p' hW hbl hO => by
      have hr := ready_zero h0
      have hm := may_in hr.1 hr.2
      have ht : tabF s.f4.f0 s.f5 = 2 := by rw [← want_tab]; exact beq_iff_eq.mp hb
      exact granted2 s p' W1.heap.size (W1.heap.size + 1 + 1) W hbl hO (by omega) (fun e => hm.2.2 ht e) hm.2.1)
  refine hturn.mono ?_
  clear hturn
  rintro e w2 ⟨p', rfl, hR, hb⟩
  refine ⟨_, rfl, ?_⟩
  have f6 := d6.keep hb
  have hB2 := keep_below hB1 hb
  have hZ := HZ1.out
  clear d3 d6 hB1 hb HT1 HI1 HZ1
  refine pl_norm (a' := ?_) ?_ ?_
  rotate_left
  · first | (show Act.put _ (some 5) _ = _; simp only [Act.put, List.setIfInBounds_toArray, List.set_cons_zero, List.set_cons_succ, i64_w, i32_w]; rfl) | with_reducible rfl
  refine pl_val (N := some 6) (v := ?_) (a' := ?_) rfl (by rfl) ?_ ?_ ?_
  rotate_left
  · go_simp
    with_reducible rfl
  rotate_left
  · simp only [Act.put, List.setIfInBounds_toArray, List.set_cons_zero, List.set_cons_succ, i64_w, i32_w]
    rfl
  refine pl_val (N := some 7) (v := ?_) (a' := ?_) rfl (by rfl) ?_ ?_ ?_
  rotate_left
  · go_simp
    with_reducible rfl
  rotate_left
  · simp only [Act.put, List.setIfInBounds_toArray, List.set_cons_zero, List.set_cons_succ, i64_w, i32_w]
    rfl
  refine pl_skip (W' := _) rfl (by rfl) (store_row_run (g := w.heap.size + 1) 33 _ _ rfl rfl (cells := (sv (turnS s (grantedB s) (grantedS s)) p')) rfl 33 (f6) (by first | kernel_rfl | rfl) rfl (sv_one _ _)) ?_
  refine pl_val (N := some 3) (v := ?_) (a' := ?_) rfl (by rfl) ?_ ?_ ?_
  rotate_left
  · go_simp
    with_reducible rfl
  rotate_left
  · simp only [Act.put, List.setIfInBounds_toArray, List.set_cons_zero, List.set_cons_succ, i64_w, i32_w]
    rfl
  refine wpList_nil ?_
  go_wp2
  exact bodyPost_ret (v := .tuple #[.agg (sv (turnS s (grantedB s) (grantedS s)) p'), .int .i64 (turnE s (grantedB s))]) (results_two Tryd.results26 _ _ (w.heap.size + 1) 33 (sv (turnS s (grantedB s) (grantedS s)) p') (0, 0) _ _ rfl rfl (Blk.row_ f6 _) Tryd.underlying33 rfl (by kernel_rfl)) rfl ⟨p', rfl, (hR.row (g := w.heap.size + 1) (by omega) _).lower (by omega), Below.row_ hB2 (by omega) _⟩
set_option maxHeartbeats 4000000 in
set_option maxRecDepth 100000 in
theorem ended_any (s : S33) (p : Pt) (over : Bool) (w : World) (hk : Okk s) (hT : TabIs w) (hi : In w s p) :
    Calls Tryd.prog 27 #[.agg (sv s p), .bool over] w fun e w' => ∃ p', e = .returned (.tuple #[.agg (sv (turnS s (endedB s over) (endedS s over)) p'), .int .i64 (turnE s (endedB s over))]) ∧ InR w' w.heap.size (turnS s (endedB s over) (endedS s over)) p' ∧ Below w.heap.size w w' := by
  obtain ⟨W1, hW⟩ : ∃ W, ((w.alloc (.cells (sv s p) 33)).alloc (.cells #[.bool over] 4)).alloc (.cells #[.int .i64 0, .int .u64 0, .bool false, .int .u64 0, .int .i64 0, .bool false, .int .u32 0, .int .i64 0, .int .i64 0, .int .i64 0, .int .i64 0, .int .i64 0, .int .i64 0, .int .i64 0, .int .i64 0, .int .i64 0, .int .i64 0, .slice none 0 0, .slice none 0 0, .slice none 0 0] 33) = W := ⟨_, rfl⟩
  have d3 : Blk W1 w.heap.size 33 (sv s p) := by rw [← hW]; exact ((Blk.new w 33 _).alloc _).alloc _
  have d4 : Blk W1 (w.heap.size + 1) 4 #[.bool over] := by rw [← hW]; exact Blk.alloc (Blk.newAt (by simp)) _
  have d6 : Blk W1 (w.heap.size + 1 + 1) 33 (sv z33 p0) := by rw [← hW]; exact Blk.newAt (by simp)
  have hB1 : Below w.heap.size w W1 := by rw [← hW]; exact keep_below_alloc _ (keep_below_alloc _ (keep_below_alloc _ (Below.refl _ _)))
  have HZ1 := Lib.hid (show w.heap.size + 1 + 1 + 1 ≤ W1.heap.size by rw [← hW]; simp)
  have HT1 := Lib.hid (TabIs.below hT hB1)
  have HI1 := Lib.hid (hi.below hB1)
  have HW := Lib.hid hW
  clear hW hT hi
  have e4 := d4.cell 0
  simp at e4
  go_enter Tryd.func27, Tryd.ntmps27
  go_upto_region 1 with fail
  rw [HW.out]
  clear HW
  refine wp_region_list ?_
  refine pl_val (N := some 6) (v := .agg (sv s p)) (a' := ?_) rfl (by rfl) (load_row_run 33 _ rfl (w.heap.size) rfl 33 (sv s p) _ (d3) Tryd.underlying33 rfl (by first | kernel_rfl | rfl)) ?_ ?_
  rotate_left
  · simp only [Act.put, List.setIfInBounds_toArray, List.set_cons_zero, List.set_cons_succ, i64_w, i32_w]
    rfl
  refine pl_val (N := some 7) (v := ?_) (a' := ?_) rfl (by rfl) ?_ ?_ ?_
  rotate_left
  · go_simp
    with_reducible rfl
  rotate_left
  · simp only [Act.put, List.setIfInBounds_toArray, List.set_cons_zero, List.set_cons_succ, i64_w, i32_w]
    rfl
  refine pl_val (N := some 8) (v := ?_) (a' := ?_) rfl (by rfl) ?_ ?_ ?_
  rotate_left
  · go_simp
    with_reducible rfl
  rotate_left
  · simp only [Act.put, List.setIfInBounds_toArray, List.set_cons_zero, List.set_cons_succ, i64_w, i32_w]
    rfl
  refine pl_call Tryd.func41 (by kernel_rfl) rfl #[.agg (sv s p), .func (.func 51) #[] #[.pointer (some ⟨w.heap.size + 1, 0, none⟩)], .func (.func 52) #[] #[.pointer (some ⟨w.heap.size + 1, 0, none⟩)]] (by rfl) rfl rfl (by (try simp only [List.map_toArray, List.map_cons, List.map_nil]); first | done | rfl) ?_
  have hturn := turn_any s p 51 52 Tryd.f51 Tryd.f52 #[.pointer (some ⟨w.heap.size + 1, 0, none⟩)] #[.pointer (some ⟨w.heap.size + 1, 0, none⟩)] (endedB s over) (endedS s over) W1 hk HT1.out HI1.out Tryd.func51 rfl rfl Tryd.func52 rfl rfl
    (fun _ W hW => ended1 (wantT s).1 (wantT s).2.1 (wantT s).2.2 over (w.heap.size + 1) W (keep_cell hW e4))
    (fun h0 hb W p' hW hbl hO => by
      refine (ended2 s p' over W1.heap.size (w.heap.size + 1) W hbl (keep_cell hW e4)).mono ?_
      rintro e w' ⟨rfl, h1, h2⟩
      exact ⟨rfl, h1, p0, h2, by cases over <;> exact InR.zero w' _⟩)
  refine hturn.mono ?_
  clear hturn
  rintro e w2 ⟨p', rfl, hR, hb⟩
  refine ⟨_, rfl, ?_⟩
  have f6 := d6.keep hb
  have hB2 := keep_below hB1 hb
  have hZ := HZ1.out
  clear d3 d4 e4 d6 hB1 hb HT1 HI1 HZ1
  refine pl_norm (a' := ?_) ?_ ?_
  rotate_left
  · first | (show Act.put _ (some 9) _ = _; simp only [Act.put, List.setIfInBounds_toArray, List.set_cons_zero, List.set_cons_succ, i64_w, i32_w]; rfl) | with_reducible rfl
  refine pl_val (N := some 10) (v := ?_) (a' := ?_) rfl (by rfl) ?_ ?_ ?_
  rotate_left
  · go_simp
    with_reducible rfl
  rotate_left
  · simp only [Act.put, List.setIfInBounds_toArray, List.set_cons_zero, List.set_cons_succ, i64_w, i32_w]
    rfl
  refine pl_val (N := some 11) (v := ?_) (a' := ?_) rfl (by rfl) ?_ ?_ ?_
  rotate_left
  · go_simp
    with_reducible rfl
  rotate_left
  · simp only [Act.put, List.setIfInBounds_toArray, List.set_cons_zero, List.set_cons_succ, i64_w, i32_w]
    rfl
  refine pl_skip (W' := _) rfl (by rfl) (store_row_run (g := w.heap.size + 1 + 1) 33 _ _ rfl rfl (cells := (sv (turnS s (endedB s over) (endedS s over)) p')) rfl 33 (f6) (by first | kernel_rfl | rfl) rfl (sv_one _ _)) ?_
  refine pl_val (N := some 5) (v := ?_) (a' := ?_) rfl (by rfl) ?_ ?_ ?_
  rotate_left
  · go_simp
    with_reducible rfl
  rotate_left
  · simp only [Act.put, List.setIfInBounds_toArray, List.set_cons_zero, List.set_cons_succ, i64_w, i32_w]
    rfl
  refine wpList_nil ?_
  go_wp2
  exact bodyPost_ret (v := .tuple #[.agg (sv (turnS s (endedB s over) (endedS s over)) p'), .int .i64 (turnE s (endedB s over))]) (results_two Tryd.results27 _ _ (w.heap.size + 1 + 1) 33 (sv (turnS s (endedB s over) (endedS s over)) p') (0, 0) _ _ rfl rfl (Blk.row_ f6 _) Tryd.underlying33 rfl (by kernel_rfl)) rfl ⟨p', rfl, (hR.row (g := w.heap.size + 1 + 1) (by omega) _).lower (by omega), Below.row_ hB2 (by omega) _⟩
end Go.Proofs.YtiamkgoajkfofaaDoor.S
