/- What the row of this claim reaches. No condition. -/
import Derived.Test.YtiamkgoajkfofaaDoorXSMay2
set_option linter.unusedVariables false
set_option linter.unusedSimpArgs false
namespace Go.Proofs.YtiamkgoajkfofaaDoor.S
open Go.RowKit Go.Proofs.YtiamkgoajkfofaaDoorW.PrintWords Go.Proofs.YtiamkgoajkfofaaDoorW.PrintLast Go.Proofs.YtiamkgoajkfofaaDoorW.PrintMore
def askS (s : S33) (c : Int) (o : S27) : S33 := if mayB s = false then z33 else if s.f0 = 3 then z33 else if refuseF s.f0 s.f2 c o = 0 then { s with f0 := 3, f4 := plainO o } else z33
def askE (s : S33) (c : Int) (o : S27) : Int := if mayB s = false then 310 else if s.f0 = 3 then 313 else refuseF s.f0 s.f2 c o
theorem sv_putop (s : S33) (p : Pt) (o : S27) : putAt (ov o).toList 4 (sv s p) = sv { s with f4 := o } p := by simp [putAt, sv, ov]
theorem askS_refused {s : S33} {c : Int} {o : S27} (h : ¬ askE s c o = 0) : askS s c o = z33 := by
  unfold askE at h
  unfold askS
  split
  · rfl
  · rename_i h1
    split
    · rfl
    · rename_i h2
      rw [if_neg h1, if_neg h2] at h
      rw [if_neg h]
theorem ask_end (p : Pt) (w W : World) (g6 : Nat) (er : Int) (s : S33) (c : Int) (o : S27) (he : askE s c o = er) (hs : askS s c o = z33) (b : Blk W g6 33 (sv z33 p0)) (hB : Below w.heap.size w W) :
    ∃ p', Value.tuple #[.agg (sv z33 p0), .int .i64 er] = .tuple #[.agg (sv (askS s c o) p'), .int .i64 (askE s c o)] ∧ InR W w.heap.size (askS s c o) p' ∧ Below w.heap.size w W := by
  rw [he, hs]
  exact ⟨p0, rfl, InR.zero W _, hB⟩
set_option maxHeartbeats 4000000 in
set_option maxRecDepth 100000 in
theorem ask_any (s : S33) (p : Pt) (c : Int) (o : S27) (w : World) (hk : Okk s) (hT : TabIs w) (hi : In w s p) :
    Calls Tryd.prog 10 #[.agg (sv s p), .int .i64 c, .agg (ov o)] w fun e w' => ∃ v, e = .returned v ∧ (∃ p', v = .tuple #[.agg (sv (askS s c o) p'), .int .i64 (askE s c o)] ∧ InR w' w.heap.size (askS s c o) p' ∧ Below w.heap.size w w') := by
  obtain ⟨W, hW⟩ : ∃ W, ((w.alloc (.cells (sv s p) 33)).alloc (.cells (ov o) 27)).alloc (.cells #[.int .i64 0, .int .u64 0, .bool false, .int .u64 0, .int .i64 0, .bool false, .int .u32 0, .int .i64 0, .int .i64 0, .int .i64 0, .int .i64 0, .int .i64 0, .int .i64 0, .int .i64 0, .int .i64 0, .int .i64 0, .int .i64 0, .slice none 0 0, .slice none 0 0, .slice none 0 0] 33) = W := ⟨_, rfl⟩
  have b3 : Blk W w.heap.size 33 (sv s p) := by rw [← hW]; exact ((Blk.new w 33 _).alloc _).alloc _
  have b5 : Blk W (w.heap.size + 1) 27 (ov o) := by rw [← hW]; exact Blk.alloc (Blk.newAt (by simp)) _
  have b6 : Blk W (w.heap.size + 1 + 1) 33 (sv z33 p0) := by rw [← hW]; exact Blk.newAt (by simp)
  have hB : Below w.heap.size w W := by rw [← hW]; exact keep_below_alloc _ (keep_below_alloc _ (keep_below_alloc _ (Below.refl _ _)))
  have hWs : W.heap.size = w.heap.size + 1 + 1 + 1 := by rw [← hW]; simp
  have HI := Lib.hid (hi.below hB)
  have HC := may_c hk (TabIs.below hT hB) (hi.below hB)
  have HW := Lib.hid hW
  have HWs := Lib.hid hWs
  clear hW hT hi hWs
  go_enter Tryd.func10, Tryd.ntmps10
  go_upto_region 1 with fail
  rw [HW.out]
  clear HW
  refine wp_region_list ?_
  refine pl_val (N := some 10) (v := .agg (sv s p)) (a' := ?_) rfl (by rfl) (load_row_run 33 _ rfl (w.heap.size) rfl 33 (sv s p) _ (b3) Tryd.underlying33 rfl (by first | kernel_rfl | rfl)) ?_ ?_
  rotate_left
  · simp only [Act.put, List.setIfInBounds_toArray, List.set_cons_zero, List.set_cons_succ, i64_w, i32_w]
    rfl
  refine pl_call Tryd.func29 (by kernel_rfl) rfl #[.agg (sv s p)] (by rfl) rfl rfl (by (try simp only [List.map_toArray, List.map_cons, List.map_nil]); first | done | rfl) ?_
  refine HC.out.mono ?_
  rintro e w1 ⟨rfl, hb⟩
  refine ⟨_, rfl, ?_⟩
  have d3 := b3.keep hb
  have d5 := b5.keep hb
  have d6 := b6.keep hb
  have hB1 := keep_below hB hb
  have HI1 := Lib.hid (HI.out.below hb)
  have HZ1 := Lib.hid (show w.heap.size + 1 + 1 + 1 ≤ w1.heap.size by have := hb.size; rw [HWs.out] at this; exact this)
  clear b3 b5 b6 hB hb HC HI HWs
  refine pl_norm (a' := ?_) ?_ ?_
  rotate_left
  · first | (show Act.put _ (some 11) _ = _; simp only [Act.put, List.setIfInBounds_toArray, List.set_cons_zero, List.set_cons_succ, i64_w, i32_w]; rfl) | with_reducible rfl
  cases hm : mayB s
  · have Hm := Lib.hid hm
    clear hm
    refine pl_val (N := some 12) (v := ?_) (a' := ?_) rfl (by rfl) ?_ ?_ ?_
    rotate_left
    · go_simp
      with_reducible rfl
    rotate_left
    · simp only [Act.put, List.setIfInBounds_toArray, List.set_cons_zero, List.set_cons_succ, i64_w, i32_w]
      rfl
    refine pl_val (N := some 9) (v := ?_) (a' := ?_) rfl (by rfl) ?_ ?_ ?_
    rotate_left
    · go_simp
      with_reducible rfl
    rotate_left
    · simp only [Act.put, List.setIfInBounds_toArray, List.set_cons_zero, List.set_cons_succ, i64_w, i32_w]
      rfl
    refine wpList_nil ?_
    go_upto_region 2 with fail
    refine wp_region_list ?_
    refine pl_val (N := some 13) (v := .agg (sv z33 p0)) (a' := ?_) rfl (by rfl) (by first | rfl | (go_simp; done) | (go_simp; rfl)) ?_ ?_
    rotate_left
    · simp only [Act.put, List.setIfInBounds_toArray, List.set_cons_zero, List.set_cons_succ, i64_w, i32_w]
      rfl
    refine pl_skip (W' := _) rfl (by rfl) (store_row_run (g := w.heap.size + 1 + 1) 33 _ _ rfl rfl (cells := (sv z33 p0)) rfl 33 (d6) (by first | kernel_rfl | rfl) rfl (sv_one _ _)) ?_
    refine pl_val (N := some 7) (v := ?_) (a' := ?_) rfl (by rfl) ?_ ?_ ?_
    rotate_left
    · go_simp
      with_reducible rfl
    rotate_left
    · simp only [Act.put, List.setIfInBounds_toArray, List.set_cons_zero, List.set_cons_succ, i64_w, i32_w]
      rfl
    refine wpList_nil ?_
    go_wp2
    refine bodyPost_ret (v := .tuple #[.agg (sv z33 p0), .int .i64 310]) (results_two Tryd.results10 _ _ (w.heap.size + 1 + 1) 33 (sv z33 p0) (0, 0) _ _ rfl rfl (Blk.row_ d6 _) Tryd.underlying33 rfl (by kernel_rfl)) rfl ⟨_, rfl, ask_end p w _ (w.heap.size + 1 + 1) 310 s c o (by unfold askE; rw [if_pos Hm.out]) (by unfold askS; rw [if_pos Hm.out]) (Blk.row_ d6 _) (Below.row_ hB1 (by omega) _)⟩
  · have Hm := Lib.hid hm
    clear hm
    refine pl_val (N := some 12) (v := ?_) (a' := ?_) rfl (by rfl) ?_ ?_ ?_
    rotate_left
    · go_simp
      with_reducible rfl
    rotate_left
    · simp only [Act.put, List.setIfInBounds_toArray, List.set_cons_zero, List.set_cons_succ, i64_w, i32_w]
      rfl
    refine pl_val (N := some 9) (v := ?_) (a' := ?_) rfl (by rfl) ?_ ?_ ?_
    rotate_left
    · go_simp
      with_reducible rfl
    rotate_left
    · simp only [Act.put, List.setIfInBounds_toArray, List.set_cons_zero, List.set_cons_succ, i64_w, i32_w]
      rfl
    refine wpList_nil ?_
    have c0 := sc0 d3
    by_cases h3 : s.f0 = 3
    · have e3 : (s.f0 == 3) = true := beq_iff_eq.mpr h3
      have H3 := Lib.hid h3
      clear h3
      go_upto_region 4 with fail
      refine wp_region_list ?_
      refine pl_val (N := some 18) (v := .agg (sv z33 p0)) (a' := ?_) rfl (by rfl) (by first | rfl | (go_simp; done) | (go_simp; rfl)) ?_ ?_
      rotate_left
      · simp only [Act.put, List.setIfInBounds_toArray, List.set_cons_zero, List.set_cons_succ, i64_w, i32_w]
        rfl
      refine pl_skip (W' := _) rfl (by rfl) (store_row_run (g := w.heap.size + 1 + 1) 33 _ _ rfl rfl (cells := (sv z33 p0)) rfl 33 (d6) (by first | kernel_rfl | rfl) rfl (sv_one _ _)) ?_
      refine pl_val (N := some 7) (v := ?_) (a' := ?_) rfl (by rfl) ?_ ?_ ?_
      rotate_left
      · go_simp
        with_reducible rfl
      rotate_left
      · simp only [Act.put, List.setIfInBounds_toArray, List.set_cons_zero, List.set_cons_succ, i64_w, i32_w]
        rfl
      refine wpList_nil ?_
      go_wp2
      refine bodyPost_ret (v := .tuple #[.agg (sv z33 p0), .int .i64 313]) (results_two Tryd.results10 _ _ (w.heap.size + 1 + 1) 33 (sv z33 p0) (0, 0) _ _ rfl rfl (Blk.row_ d6 _) Tryd.underlying33 rfl (by kernel_rfl)) rfl ⟨_, rfl, ask_end p w _ (w.heap.size + 1 + 1) 313 s c o (by unfold askE; rw [if_neg (by rw [Hm.out]; simp), if_pos H3.out]) (by unfold askS; rw [if_neg (by rw [Hm.out]; simp), if_pos H3.out]) (Blk.row_ d6 _) (Below.row_ hB1 (by omega) _)⟩
    have e3 : (s.f0 == 3) = false := beq_eq_false_iff_ne.mpr h3
    have H3 := Lib.hid h3
    clear h3
    obtain ⟨k, hkr⟩ := Ev.rounds (refuse_ev s c o)
    have HR := refuse_c hkr HI1.out
    clear hkr
    go_upto_region 5 with fail
    refine wp_region_list ?_
    refine pl_val (N := some 19) (v := .agg (sv s p)) (a' := ?_) rfl (by rfl) (load_row_run 33 _ rfl (w.heap.size) rfl 33 (sv s p) _ (d3) Tryd.underlying33 rfl (by first | kernel_rfl | rfl)) ?_ ?_
    rotate_left
    · simp only [Act.put, List.setIfInBounds_toArray, List.set_cons_zero, List.set_cons_succ, i64_w, i32_w]
      rfl
    refine pl_val (N := some 20) (v := ?_) (a' := ?_) rfl (by rfl) ?_ ?_ ?_
    rotate_left
    · go_simp
      with_reducible rfl
    rotate_left
    · simp only [Act.put, List.setIfInBounds_toArray, List.set_cons_zero, List.set_cons_succ, i64_w, i32_w]
      rfl
    refine pl_val (N := some 21) (v := .agg (ov o)) (a' := ?_) rfl (by rfl) (load_row_run 27 _ rfl (w.heap.size + 1) rfl 27 (ov o) _ (d5) Tryd.underlying27 rfl (by first | kernel_rfl | rfl)) ?_ ?_
    rotate_left
    · simp only [Act.put, List.setIfInBounds_toArray, List.set_cons_zero, List.set_cons_succ, i64_w, i32_w]
      rfl
    refine pl_call Tryd.func30 (by kernel_rfl) rfl #[.agg (sv s p), .int .i64 c, .agg (ov o)] (by rfl) rfl rfl (by (try simp only [List.map_toArray, List.map_cons, List.map_nil]); first | done | rfl) ?_
    refine HR.out.mono ?_
    rintro e w2 ⟨rfl, hb⟩
    refine ⟨_, rfl, ?_⟩
    have f3 := d3.keep hb
    have f5 := d5.keep hb
    have f6 := d6.keep hb
    have hB2 := keep_below hB1 hb
    have HI2 := Lib.hid (HI1.out.below hb)
    have HZ2 := Lib.hid (show w.heap.size + 1 + 1 + 1 ≤ w2.heap.size by have := hb.size; have := HZ1.out; omega)
    clear d3 d5 d6 hB1 hb HR HI1 HZ1 c0
    refine pl_norm (a' := ?_) ?_ ?_
    rotate_left
    · first | (show Act.put _ (some 22) _ = _; simp only [Act.put, List.setIfInBounds_toArray, List.set_cons_zero, List.set_cons_succ, i64_w, i32_w]; rfl) | with_reducible rfl
    refine pl_val (N := some 8) (v := ?_) (a' := ?_) rfl (by rfl) ?_ ?_ ?_
    rotate_left
    · go_simp
      with_reducible rfl
    rotate_left
    · simp only [Act.put, List.setIfInBounds_toArray, List.set_cons_zero, List.set_cons_succ, i64_w, i32_w]
      rfl
    refine wpList_nil ?_
    obtain ⟨er, her⟩ : ∃ er, refuseF s.f0 s.f2 c o = er := ⟨_, rfl⟩
    rw [her]
    have HE := Lib.hid her
    clear her
    by_cases h0 : er = 0
    · have e0 : (er != 0) = false := by simp [h0]
      have H0 := Lib.hid h0
      clear h0
      have HCp := copied_c hk.1 HI2.out
      go_upto_region 8 with fail
      refine wp_region_list ?_
      refine pl_val (N := some 27) (v := .agg (sv s p)) (a' := ?_) rfl (by rfl) (load_row_run 33 _ rfl (w.heap.size) rfl 33 (sv s p) _ (f3) Tryd.underlying33 rfl (by first | kernel_rfl | rfl)) ?_ ?_
      rotate_left
      · simp only [Act.put, List.setIfInBounds_toArray, List.set_cons_zero, List.set_cons_succ, i64_w, i32_w]
        rfl
      refine pl_call Tryd.func31 (by kernel_rfl) rfl #[.agg (sv s p)] (by rfl) rfl rfl (by (try simp only [List.map_toArray, List.map_cons, List.map_nil]); first | done | rfl) ?_
      refine HCp.out.mono ?_
      rintro e w3 ⟨p', rfl, hO, hb⟩
      refine ⟨_, rfl, ?_⟩
      have g3 := f3.keep hb
      have g5 := f5.keep hb
      have g6 := f6.keep hb
      have hB3 := keep_below hB2 hb
      have HZ3 := HZ2.out
      clear f3 f5 f6 hB2 hb HCp HI2
      refine pl_norm (a' := ?_) ?_ ?_
      rotate_left
      · first | (show Act.put _ (some 28) _ = _; simp only [Act.put, List.setIfInBounds_toArray, List.set_cons_zero, List.set_cons_succ, i64_w, i32_w]; rfl) | with_reducible rfl
      refine pl_skip (W' := _) rfl (by rfl) (store_row_run (g := w.heap.size) 33 _ _ rfl rfl (cells := (sv s p')) rfl 33 (g3) (by first | kernel_rfl | rfl) rfl (sv_one _ _)) ?_
      refine wpList_nil ?_
      have i3 := Blk.row_ g3 (sv s p')
      have i5 := Blk.row_far g5 (by omega : w.heap.size + 1 ≠ w.heap.size) (sv s p')
      have i6 := Blk.row_far g6 (by omega : w.heap.size + 1 + 1 ≠ w.heap.size) (sv s p')
      have hB4 := Below.row_ hB3 (Nat.le_refl _) (sv s p')
      have hO4 := hO.row (g := w.heap.size) (by omega) (sv s p')
      generalize w3.setRow w.heap.size (sv s p') = w4 at i3 i5 i6 hB4 hO4 ⊢
      clear g3 g5 g6 hB3 hO
      have HP := plain_c w4 o
      go_upto_region 9 with fail
      refine wp_region_list ?_
      refine pl_val (N := some 29) (v := .agg (ov o)) (a' := ?_) rfl (by rfl) (load_row_run 27 _ rfl (w.heap.size + 1) rfl 27 (ov o) _ (i5) Tryd.underlying27 rfl (by first | kernel_rfl | rfl)) ?_ ?_
      rotate_left
      · simp only [Act.put, List.setIfInBounds_toArray, List.set_cons_zero, List.set_cons_succ, i64_w, i32_w]
        rfl
      refine pl_call Tryd.func32 (by kernel_rfl) rfl #[.agg (ov o)] (by rfl) rfl rfl (by (try simp only [List.map_toArray, List.map_cons, List.map_nil]); first | done | rfl) ?_
      refine HP.out.mono ?_
      rintro e w5 ⟨rfl, hb⟩
      refine ⟨_, rfl, ?_⟩
      have j3 := i3.keep hb
      have j6 := i6.keep hb
      have hB5 := keep_below hB4 hb
      have hO5 := hO4.below hb
      clear i3 i5 i6 hB4 hO4 hb HP
      refine pl_norm (a' := ?_) ?_ ?_
      rotate_left
      · first | (show Act.put _ (some 30) _ = _; simp only [Act.put, List.setIfInBounds_toArray, List.set_cons_zero, List.set_cons_succ, i64_w, i32_w]; rfl) | with_reducible rfl
      have z_ := j3.frozen 0
      have c_ := sc0 j3
      refine pl_val (N := some 31) (v := ?_) (a' := ?_) rfl (by rfl) ?_ ?_ ?_
      rotate_left
      · go_simp
        with_reducible rfl
      rotate_left
      · simp only [Act.put, List.setIfInBounds_toArray, List.set_cons_zero, List.set_cons_succ, i64_w, i32_w]
        rfl
      refine pl_skip (W' := ?_) rfl (by rfl) ?_ ?_
      rotate_left
      · go_simp
        with_reducible rfl
      clear z_ c_
      have k3 : Blk (w5.setCell ⟨w.heap.size, 0, none⟩ (.int .i64 3)) w.heap.size 33 (sv { s with f0 := 3 } p') := j3.set_ 0 (.int .i64 3)
      have k6 := j6.far (p := ⟨w.heap.size, 0, none⟩) (by simp; omega) (.int .i64 3)
      have hB6 := hB5.setCell (p := ⟨w.heap.size, 0, none⟩) (Nat.le_refl _) (.int .i64 3)
      have hO6 := hO5.set (q := ⟨w.heap.size, 0, none⟩) (by show w.heap.size < _; omega) (.int .i64 3)
      generalize w5.setCell ⟨w.heap.size, 0, none⟩ (.int .i64 3) = w6 at k3 k6 hB6 hO6 ⊢
      clear j3 j6 hB5 hO5
      refine pl_val (N := some 32) (v := ?_) (a' := ?_) rfl (by rfl) ?_ ?_ ?_
      rotate_left
      · go_simp
        with_reducible rfl
      rotate_left
      · simp only [Act.put, List.setIfInBounds_toArray, List.set_cons_zero, List.set_cons_succ, i64_w, i32_w]
        rfl
      refine pl_skip (W' := _) rfl (by rfl) (store_sub_run (g := w.heap.size) (off := 4) 27 _ _ rfl rfl (sub := (ov (plainO o))) rfl 33 (k3) (by first | kernel_rfl | rfl) (Nat.le_of_ble_eq_true rfl) (ov_one _)) ?_
      rw [sv_putop]
      refine wpList_nil ?_
      have l3 := Blk.row_ k3 (sv { s with f0 := 3, f4 := plainO o } p')
      have l6 := Blk.row_far k6 (by omega : w.heap.size + 1 + 1 ≠ w.heap.size) (sv { s with f0 := 3, f4 := plainO o } p')
      have hB7 := Below.row_ hB6 (Nat.le_refl _) (sv { s with f0 := 3, f4 := plainO o } p')
      have hO7 := hO6.row (g := w.heap.size) (by omega) (sv { s with f0 := 3, f4 := plainO o } p')
      generalize w6.setRow w.heap.size (sv { s with f0 := 3, f4 := plainO o } p') = w7 at l3 l6 hB7 hO7 ⊢
      clear k3 k6 hB6 hO6
      have hA : askS s c o = { s with f0 := 3, f4 := plainO o } := by unfold askS; rw [if_neg (by rw [Hm.out]; simp), if_neg H3.out, if_pos (HE.out.trans H0.out)]
      have hE : askE s c o = 0 := by unfold askE; rw [if_neg (by rw [Hm.out]; simp), if_neg H3.out]; exact HE.out.trans H0.out
      rw [← hA] at l3
      have HA := Lib.hid hA
      have HEE := Lib.hid hE
      clear hA hE
      go_upto_region 10 with fail
      refine wp_region_list ?_
      refine pl_val (N := some 33) (v := .agg (sv (askS s c o) p')) (a' := ?_) rfl (by rfl) (load_row_run 33 _ rfl (w.heap.size) rfl 33 (sv (askS s c o) p') _ (l3) Tryd.underlying33 rfl (by first | kernel_rfl | rfl)) ?_ ?_
      rotate_left
      · simp only [Act.put, List.setIfInBounds_toArray, List.set_cons_zero, List.set_cons_succ, i64_w, i32_w]
        rfl
      refine pl_skip (W' := _) rfl (by rfl) (store_row_run (g := w.heap.size + 1 + 1) 33 _ _ rfl rfl (cells := (sv (askS s c o) p')) rfl 33 (l6) (by first | kernel_rfl | rfl) rfl (sv_one _ _)) ?_
      refine pl_val (N := some 7) (v := ?_) (a' := ?_) rfl (by rfl) ?_ ?_ ?_
      rotate_left
      · go_simp
        with_reducible rfl
      rotate_left
      · simp only [Act.put, List.setIfInBounds_toArray, List.set_cons_zero, List.set_cons_succ, i64_w, i32_w]
        rfl
      refine wpList_nil ?_
      go_wp2
      refine bodyPost_ret (v := .tuple #[.agg (sv (askS s c o) p'), .int .i64 0]) (results_two Tryd.results10 _ _ (w.heap.size + 1 + 1) 33 (sv (askS s c o) p') (0, 0) _ _ rfl rfl (Blk.row_ l6 _) Tryd.underlying33 rfl (by kernel_rfl)) rfl ⟨_, rfl, p', by rw [HEE.out], ?_, Below.row_ hB7 (by omega) _⟩
      have := ((hO7.row (g := w.heap.size + 1 + 1) (by omega) (sv (askS s c o) p')).lower (b' := w.heap.size) (by omega)).R
      rw [HA.out] at this ⊢
      exact this
    · have e0 : (er != 0) = true := bne_iff_ne.mpr h0
      have H0 := Lib.hid h0
      clear h0
      go_upto_region 7 with fail
      refine wp_region_list ?_
      refine pl_val (N := some 25) (v := .agg (sv z33 p0)) (a' := ?_) rfl (by rfl) (by first | rfl | (go_simp; done) | (go_simp; rfl)) ?_ ?_
      rotate_left
      · simp only [Act.put, List.setIfInBounds_toArray, List.set_cons_zero, List.set_cons_succ, i64_w, i32_w]
        rfl
      refine pl_val (N := some 26) (v := ?_) (a' := ?_) rfl (by rfl) ?_ ?_ ?_
      rotate_left
      · go_simp
        with_reducible rfl
      rotate_left
      · simp only [Act.put, List.setIfInBounds_toArray, List.set_cons_zero, List.set_cons_succ, i64_w, i32_w]
        rfl
      refine pl_skip (W' := _) rfl (by rfl) (store_row_run (g := w.heap.size + 1 + 1) 33 _ _ rfl rfl (cells := (sv z33 p0)) rfl 33 (f6) (by first | kernel_rfl | rfl) rfl (sv_one _ _)) ?_
      refine pl_val (N := some 7) (v := ?_) (a' := ?_) rfl (by rfl) ?_ ?_ ?_
      rotate_left
      · go_simp
        with_reducible rfl
      rotate_left
      · simp only [Act.put, List.setIfInBounds_toArray, List.set_cons_zero, List.set_cons_succ, i64_w, i32_w]
        rfl
      refine wpList_nil ?_
      go_wp2
      have hE : askE s c o = er := by unfold askE; rw [if_neg (by rw [Hm.out]; simp), if_neg H3.out]; exact HE.out
      refine bodyPost_ret (v := .tuple #[.agg (sv z33 p0), .int .i64 er]) (results_two Tryd.results10 _ _ (w.heap.size + 1 + 1) 33 (sv z33 p0) (0, 0) _ _ rfl rfl (Blk.row_ f6 _) Tryd.underlying33 rfl (by kernel_rfl)) rfl ⟨_, rfl, ask_end p w _ (w.heap.size + 1 + 1) er s c o hE (askS_refused (by rw [hE]; exact H0.out)) (Blk.row_ f6 _) (Below.row_ hB2 (by omega) _)⟩
end Go.Proofs.YtiamkgoajkfofaaDoor.S
