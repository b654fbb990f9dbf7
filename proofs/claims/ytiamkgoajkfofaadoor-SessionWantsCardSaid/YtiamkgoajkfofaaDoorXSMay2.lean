/- What the row of this claim reaches. No condition. -/
import Derived.Test.YtiamkgoajkfofaaDoorXSMay
set_option linter.unusedVariables false
set_option linter.unusedSimpArgs false
namespace Go.Proofs.YtiamkgoajkfofaaDoor.S
open Go.RowKit Go.Proofs.YtiamkgoajkfofaaDoorW.PrintWords Go.Proofs.YtiamkgoajkfofaaDoorW.PrintLast Go.Proofs.YtiamkgoajkfofaaDoorW.PrintMore
theorem may_c {s : S33} {p : Pt} {W : World} (hk : Okk s) (hT : TabIs W) (hi : In W s p) : Hid (Calls Tryd.prog 29 #[.agg (sv s p)] W fun e w' => e = .returned (.bool (mayB s)) ∧ Below W.heap.size W w') := Lib.hid (may_any s p W hk hT hi)
def readyF (s : S33) : Int := if mayB s = false then 310 else if s.f0 = 3 then 0 else 312
set_option maxHeartbeats 4000000 in
set_option maxRecDepth 100000 in
theorem ready_any (s : S33) (p : Pt) (w : World) (hk : Okk s) (hT : TabIs w) (hi : In w s p) :
    Calls Tryd.prog 35 #[.agg (sv s p)] w fun e w' => e = .returned (.int .i64 (readyF s)) ∧ Below w.heap.size w w' := by
  obtain ⟨W, hW⟩ : ∃ W, w.alloc (.cells (sv s p) 33) = W := ⟨_, rfl⟩
  have b : Blk W w.heap.size 33 (sv s p) := by rw [← hW]; exact Blk.new w 33 _
  have hB : Below w.heap.size w W := by rw [← hW]; exact keep_below_alloc _ (Below.refl _ _)
  have HC := may_c hk (TabIs.below hT hB) (hi.below hB)
  have HW := Lib.hid hW
  clear hW hT hi
  go_enter Tryd.func35, Tryd.ntmps35
  go_upto_region 1 with fail
  rw [HW.out]
  clear HW
  refine wp_region_list ?_
  refine pl_val (N := some 4) (v := .agg (sv s p)) (a' := ?_) rfl (by rfl) (load_row_run 33 _ rfl (w.heap.size) rfl 33 (sv s p) _ (b) Tryd.underlying33 rfl (by first | kernel_rfl | rfl)) ?_ ?_
  rotate_left
  · simp only [Act.put, List.setIfInBounds_toArray, List.set_cons_zero, List.set_cons_succ, i64_w, i32_w]
    rfl
  refine pl_call Tryd.func29 (by kernel_rfl) rfl #[.agg (sv s p)] (by rfl) rfl rfl (by (try simp only [List.map_toArray, List.map_cons, List.map_nil]); first | done | rfl) ?_
  refine HC.out.mono ?_
  rintro e w1 ⟨rfl, hb⟩
  refine ⟨_, rfl, ?_⟩
  have b1 := b.keep hb
  have hB1 := keep_below hB hb
  clear b hB hb HC
  refine pl_norm (a' := ?_) ?_ ?_
  rotate_left
  · first | (show Act.put _ (some 5) _ = _; simp only [Act.put, List.setIfInBounds_toArray, List.set_cons_zero, List.set_cons_succ, i64_w, i32_w]; rfl) | with_reducible rfl
  cases hm : mayB s
  · have Hm := Lib.hid hm
    clear hm
    refine pl_val (N := some 6) (v := ?_) (a' := ?_) rfl (by rfl) ?_ ?_ ?_
    rotate_left
    · go_simp
      with_reducible rfl
    rotate_left
    · simp only [Act.put, List.setIfInBounds_toArray, List.set_cons_zero, List.set_cons_succ, i64_w, i32_w]
      rfl
    refine pl_val (N := some 3) (v := ?_) (a' := ?_) rfl (by rfl) ?_ ?_ ?_
    rotate_left
    · go_simp
      with_reducible rfl
    rotate_left
    · simp only [Act.put, List.setIfInBounds_toArray, List.set_cons_zero, List.set_cons_succ, i64_w, i32_w]
      rfl
    refine wpList_nil ?_
    go_wp2
    go_ret
    exact ⟨by unfold readyF; rw [if_pos Hm.out]; (try rfl), hB1⟩
  · have Hm := Lib.hid hm
    clear hm
    have c0 := sc0 b1
    by_cases h3 : s.f0 = 3
    · have e3 : (s.f0 != 3) = false := by simp [h3]
      have H3 := Lib.hid h3
      clear h3
      refine pl_val (N := some 6) (v := ?_) (a' := ?_) rfl (by rfl) ?_ ?_ ?_
      rotate_left
      · go_simp
        with_reducible rfl
      rotate_left
      · simp only [Act.put, List.setIfInBounds_toArray, List.set_cons_zero, List.set_cons_succ, i64_w, i32_w]
        rfl
      refine pl_val (N := some 3) (v := ?_) (a' := ?_) rfl (by rfl) ?_ ?_ ?_
      rotate_left
      · go_simp
        with_reducible rfl
      rotate_left
      · simp only [Act.put, List.setIfInBounds_toArray, List.set_cons_zero, List.set_cons_succ, i64_w, i32_w]
        rfl
      refine wpList_nil ?_
      go_wp2
      go_ret
      exact ⟨by unfold readyF; rw [if_neg (by rw [Hm.out]; simp), if_pos H3.out]; (try rfl), hB1⟩
    · skip
      have e3 : (s.f0 != 3) = true := bne_iff_ne.mpr h3
      have H3 := Lib.hid h3
      clear h3
      refine pl_val (N := some 6) (v := ?_) (a' := ?_) rfl (by rfl) ?_ ?_ ?_
      rotate_left
      · go_simp
        with_reducible rfl
      rotate_left
      · simp only [Act.put, List.setIfInBounds_toArray, List.set_cons_zero, List.set_cons_succ, i64_w, i32_w]
        rfl
      refine pl_val (N := some 3) (v := ?_) (a' := ?_) rfl (by rfl) ?_ ?_ ?_
      rotate_left
      · go_simp
        with_reducible rfl
      rotate_left
      · simp only [Act.put, List.setIfInBounds_toArray, List.set_cons_zero, List.set_cons_succ, i64_w, i32_w]
        rfl
      refine wpList_nil ?_
      go_wp2
      go_ret
      exact ⟨by unfold readyF; rw [if_neg (by rw [Hm.out]; simp), if_neg H3.out]; (try rfl), hB1⟩
theorem ready_c {s : S33} {p : Pt} {W : World} (hk : Okk s) (hT : TabIs W) (hi : In W s p) : Hid (Calls Tryd.prog 35 #[.agg (sv s p)] W fun e w' => e = .returned (.int .i64 (readyF s)) ∧ Below W.heap.size W w') := Lib.hid (ready_any s p W hk hT hi)
def cpy.T1 : Bool × List (List Nat × List Nat) := (true, [([], []), ([0], [0]), ([1], [1]), ([2], [2]), ([], []), ([4], [4]), ([5], [5]), ([6, 3], [6]), ([], []), ([8], [8]), ([9, 7], [9]), ([0, 1, 2, 3, 4, 5, 6, 8, 9], []), ([11, 0, 1, 2, 3, 4, 5, 6, 8, 9], [11]), ([12, 3, 10, 0, 1, 2, 3, 4, 5, 6, 8, 9], [3, 12]), ([0, 1, 2, 3, 4, 5, 6, 7, 8, 9, 11, 12, 13], []), ([14, 0, 1, 2, 3, 4, 5, 6, 7, 8, 9, 11, 12, 13], [14]), ([15, 7, 13, 0, 1, 2, 3, 4, 5, 6, 7, 8, 9, 11, 12, 13], [7, 15]), ([0, 1, 2, 3, 4, 5, 6, 7, 8, 9, 10, 11, 12, 13, 14, 15, 16], []), ([17, 10, 16, 0, 1, 2, 3, 4, 5, 6, 7, 8, 9, 10, 11, 12, 13, 14, 15, 16], [10, 17])])
def cpy.B1 : List Nat := [0, 1, 3, 7, 0, 16, 48, 127, 0, 256, 1023, 895, 2943, 8191, 16383, 32767, 65535, 131071, 262143]
theorem cpy.tab1 : rtab .any (opsOf Tryd.f31 1) = cpy.T1 := by kernel_rfl
theorem cpy.bits1 : waitsOk cpy.T1.2 cpy.B1 = true := by kernel_rfl
set_option maxHeartbeats 4000000 in
set_option maxRecDepth 100000 in
theorem copied_any (s : S33) (p : Pt) (w : World) (hl : Lens s) (hi : In w s p) :
    Calls Tryd.prog 31 #[.agg (sv s p)] w fun e w' => ∃ p', e = .returned (.agg (sv s p')) ∧ InO w' w.heap.size s p' ∧ Below w.heap.size w w' := by
  obtain ⟨W, hW⟩ : ∃ W, (w.alloc (.cells (sv s p) 33)).alloc (.cells (sv z33 p0) 33) = W := ⟨_, rfl⟩
  have b : Blk W w.heap.size 33 (sv s p) := by rw [← hW]; exact (Blk.new w 33 _).alloc _
  have b2 : Blk W (w.heap.size + 1) 33 (sv z33 p0) := by rw [← hW]; exact Blk.newAt (by simp)
  have hB : Below w.heap.size w W := by rw [← hW]; exact keep_below_alloc _ (keep_below_alloc _ (Below.refl _ _))
  have HI := Lib.hid (hi.below hB)
  have HW := Lib.hid hW
  have HWs := HW
  clear hW hi
  go_enter Tryd.func31, Tryd.ntmps31
  go_upto_region 1 with fail
  rw [show (w.alloc (.cells (sv s p) 33)).alloc (.cells #[.int .i64 0, .int .u64 0, .bool false, .int .u64 0, .int .i64 0, .bool false, .int .u32 0, .int .i64 0, .int .i64 0, .int .i64 0, .int .i64 0, .int .i64 0, .int .i64 0, .int .i64 0, .int .i64 0, .int .i64 0, .int .i64 0, .slice none 0 0, .slice none 0 0, .slice none 0 0] 33) = W from HW.out]
  clear HW
  have k17 := sc17 b
  have k18 := sc18 b
  have k19 := sc19 b
  refine start_ (n := 19) (S := (fun w' => Below W.heap.size W w')) (ds := [13, 16, 18]) #[false, false, false, false, false, false, false, false, false, false, false, false, false, false, false, false, false, false, false] (by kernel_rfl) rfl rfl (Below.drew (Below.refl _ _)) (fun hHeld => ?_)
  refine with_tabW cpy.tab1 cpy.bits1 (fun HT_ HW_ => ?_)
  refine pure_ (i := 0) (N := some 3) (v := ?_) (a' := ?_) #[true, false, false, false, false, false, false, false, false, false, false, false, false, false, false, false, false, false, false] rfl rfl (any_of HT_.out (by kernel_rfl)) (fun _ _ _ h => h) (Or.inl ⟨by rfl, ?_⟩) ?_ ?_
  rotate_left
  · intro w'
    go_simp
    with_reducible rfl
  rotate_left
  · simp only [Act.put, List.setIfInBounds_toArray, List.set_cons_zero, List.set_cons_succ, i64_w, i32_w]
    rfl
  refine pure_ (i := 1) (N := some 4) (v := ?_) (a' := ?_) #[true, true, false, false, false, false, false, false, false, false, false, false, false, false, false, false, false, false, false] rfl rfl (any_of HT_.out (by kernel_rfl)) (fun _ _ _ h => h) (Or.inl ⟨by rfl, ?_⟩) ?_ ?_
  rotate_left
  · intro w'
    go_simp
    with_reducible rfl
  rotate_left
  · simp only [Act.put, List.setIfInBounds_toArray, List.set_cons_zero, List.set_cons_succ, i64_w, i32_w]
    rfl
  refine take_ (i := 2) (N := some 5) (v := ?_) (a' := ?_) #[true, true, true, false, false, false, false, false, false, false, false, false, false, false, false, false, false, false, false] rfl rfl (take_ofW HT_.out HW_.out (by kernel_rfl)) (fun _ _ _ h => h) (Or.inl ⟨by rfl, ?_⟩) hHeld ?_ ?_
  rotate_left
  · rintro w' s0
    have m17 := keep_cell s0 k17
    have m18 := keep_cell s0 k18
    have m19 := keep_cell s0 k19
    go_simp
    with_reducible rfl
  rotate_left
  · simp only [Act.put, List.setIfInBounds_toArray, List.set_cons_zero, List.set_cons_succ, i64_w, i32_w]
    rfl
  refine pure_ (i := 4) (N := some 7) (v := ?_) (a' := ?_) #[true, true, true, false, true, false, false, false, false, false, false, false, false, false, false, false, false, false, false] rfl rfl (any_of HT_.out (by kernel_rfl)) (fun _ _ _ h => h) (Or.inl ⟨by rfl, ?_⟩) ?_ ?_
  rotate_left
  · intro w'
    go_simp
    with_reducible rfl
  rotate_left
  · simp only [Act.put, List.setIfInBounds_toArray, List.set_cons_zero, List.set_cons_succ, i64_w, i32_w]
    rfl
  refine pure_ (i := 5) (N := some 8) (v := ?_) (a' := ?_) #[true, true, true, false, true, true, false, false, false, false, false, false, false, false, false, false, false, false, false] rfl rfl (any_of HT_.out (by kernel_rfl)) (fun _ _ _ h => h) (Or.inl ⟨by rfl, ?_⟩) ?_ ?_
  rotate_left
  · intro w'
    go_simp
    with_reducible rfl
  rotate_left
  · simp only [Act.put, List.setIfInBounds_toArray, List.set_cons_zero, List.set_cons_succ, i64_w, i32_w]
    rfl
  refine take_ (i := 6) (N := some 9) (v := ?_) (a' := ?_) #[true, true, true, false, true, true, true, false, false, false, false, false, false, false, false, false, false, false, false] rfl rfl (take_ofW HT_.out HW_.out (by kernel_rfl)) (fun _ _ _ h => h) (Or.inl ⟨by rfl, ?_⟩) hHeld ?_ ?_
  rotate_left
  · rintro w' s0
    have m17 := keep_cell s0 k17
    have m18 := keep_cell s0 k18
    have m19 := keep_cell s0 k19
    go_simp
    with_reducible rfl
  rotate_left
  · simp only [Act.put, List.setIfInBounds_toArray, List.set_cons_zero, List.set_cons_succ, i64_w, i32_w]
    rfl
  refine pure_ (i := 8) (N := some 11) (v := ?_) (a' := ?_) #[true, true, true, false, true, true, true, false, true, false, false, false, false, false, false, false, false, false, false] rfl rfl (any_of HT_.out (by kernel_rfl)) (fun _ _ _ h => h) (Or.inl ⟨by rfl, ?_⟩) ?_ ?_
  rotate_left
  · intro w'
    go_simp
    with_reducible rfl
  rotate_left
  · simp only [Act.put, List.setIfInBounds_toArray, List.set_cons_zero, List.set_cons_succ, i64_w, i32_w]
    rfl
  refine take_ (i := 9) (N := some 12) (v := ?_) (a' := ?_) #[true, true, true, false, true, true, true, false, true, true, false, false, false, false, false, false, false, false, false] rfl rfl (take_ofW HT_.out HW_.out (by kernel_rfl)) (fun _ _ _ h => h) (Or.inl ⟨by rfl, ?_⟩) hHeld ?_ ?_
  rotate_left
  · rintro w' s0
    have m17 := keep_cell s0 k17
    have m18 := keep_cell s0 k18
    have m19 := keep_cell s0 k19
    go_simp
    with_reducible rfl
  rotate_left
  · simp only [Act.put, List.setIfInBounds_toArray, List.set_cons_zero, List.set_cons_succ, i64_w, i32_w]
    rfl
  have hX := hHeld
  refine one_ (i := 3) (N := some 6) #[true, true, true, true, true, true, true, false, true, true, false, false, false, false, false, false, false, false, false] rfl rfl (one_of HT_.out (by kernel_rfl)) (by decide) (fun K hK => ?_)
  refine goes_ Tryd.func56 (by kernel_rfl) rfl #[.slice p.A17 s.f6.f1.length p.c17] (by rfl) rfl rfl (by (try simp only [List.map_toArray, List.map_cons, List.map_nil]); first | done | rfl) ?_
  refine (cloneS_c hl.1 (HI.out.below hX).1).out.mono ?_
  rintro e_ w3 ⟨A17, c17, rfl, h17, hb⟩
  refine ⟨_, rfl, ?_⟩
  replace h17 : RS _ W.heap.size _ _ _ := Kd.R_lower h17 hX.size
  replace hX := keep_below hX hb
  clear hb
  refine hK.out _ _ hX (fun hHeld => ?_)
  clear hK K
  refine norm_ (a' := ?_) ?_ ?_
  rotate_left
  · first | (show Act.put _ (some 6) _ = _; simp only [Act.put, List.setIfInBounds_toArray, List.set_cons_zero, List.set_cons_succ, i64_w, i32_w]; rfl) | with_reducible rfl
  refine pure_ (i := 11) (N := some 14) (v := ?_) (a' := ?_) #[true, true, true, true, true, true, true, false, true, true, false, true, false, false, false, false, false, false, false] rfl rfl (any_of HT_.out (by kernel_rfl)) (fun _ _ _ h => h) (Or.inl ⟨by rfl, ?_⟩) ?_ ?_
  rotate_left
  · intro w'
    go_simp
    with_reducible rfl
  rotate_left
  · simp only [Act.put, List.setIfInBounds_toArray, List.set_cons_zero, List.set_cons_succ, i64_w, i32_w]
    rfl
  refine pure_ (i := 12) (N := some 15) (v := ?_) (a' := ?_) #[true, true, true, true, true, true, true, false, true, true, false, true, true, false, false, false, false, false, false] rfl rfl (any_of HT_.out (by kernel_rfl)) (fun _ _ _ h => h) (Or.inl ⟨by rfl, ?_⟩) ?_ ?_
  rotate_left
  · intro w'
    go_simp
    with_reducible rfl
  rotate_left
  · simp only [Act.put, List.setIfInBounds_toArray, List.set_cons_zero, List.set_cons_succ, i64_w, i32_w]
    rfl
  refine one_ (i := 7) (N := some 10) #[true, true, true, true, true, true, true, true, true, true, false, true, true, false, false, false, false, false, false] rfl rfl (one_of HT_.out (by kernel_rfl)) (by decide) (fun K hK => ?_)
  refine goes_ Tryd.func57 (by kernel_rfl) rfl #[.slice p.A18 s.f6.f2.length p.c18] (by rfl) rfl rfl (by (try simp only [List.map_toArray, List.map_cons, List.map_nil]); first | done | rfl) ?_
  refine (cloneU_c hl.2.1 (HI.out.below hX).2.1).out.mono ?_
  rintro e_ w4 ⟨A18, c18, rfl, h18, hb⟩
  refine ⟨_, rfl, ?_⟩
  replace h18 : RU _ W.heap.size _ _ _ := Kd.R_lower h18 hX.size
  replace hX := keep_below hX hb
  replace h17 : RS _ _ _ _ _ := Kd.R_below h17 hb
  clear hb
  refine hK.out _ _ hX (fun hHeld => ?_)
  clear hK K
  refine norm_ (a' := ?_) ?_ ?_
  rotate_left
  · first | (show Act.put _ (some 10) _ = _; simp only [Act.put, List.setIfInBounds_toArray, List.set_cons_zero, List.set_cons_succ, i64_w, i32_w]; rfl) | with_reducible rfl
  refine one_ (i := 10) (N := some 13) #[true, true, true, true, true, true, true, true, true, true, true, true, true, false, false, false, false, false, false] rfl rfl (one_of HT_.out (by kernel_rfl)) (by decide) (fun K hK => ?_)
  refine goes_ Tryd.func57 (by kernel_rfl) rfl #[.slice p.A19 s.f7.length p.c19] (by rfl) rfl rfl (by (try simp only [List.map_toArray, List.map_cons, List.map_nil]); first | done | rfl) ?_
  refine (cloneU_c hl.2.2 (HI.out.below hX).2.2).out.mono ?_
  rintro e_ w5 ⟨A19, c19, rfl, h19, hb⟩
  refine ⟨_, rfl, ?_⟩
  replace h19 : RU _ W.heap.size _ _ _ := Kd.R_lower h19 hX.size
  replace hX := keep_below hX hb
  replace h17 : RS _ _ _ _ _ := Kd.R_below h17 hb
  replace h18 : RU _ _ _ _ _ := Kd.R_below h18 hb
  clear hb
  refine hK.out _ _ hX (fun hHeld => ?_)
  clear hK K
  refine norm_ (a' := ?_) ?_ ?_
  rotate_left
  · first | (show Act.put _ (some 13) _ = _; simp only [Act.put, List.setIfInBounds_toArray, List.set_cons_zero, List.set_cons_succ, i64_w, i32_w]; rfl) | with_reducible rfl
  have hO : InO w5 W.heap.size s ⟨A17, c17, A18, c18, A19, c19⟩ := ⟨h17, h18, h19⟩
  clear h17 h18 h19
  have b5 := b.keep hX
  have d5 := b2.keep hX
  have hB5 := keep_below hB hX
  have hsz : w.heap.size + 2 = W.heap.size := by rw [← HWs.out]; simp
  clear b b2 k17 k18 k19
  have z_ := b5.frozen 17
  have c_ : _ = some _ := (b5.cell 17).trans rfl
  refine last_ (i := 13) (N := none) #[true, true, true, true, true, true, true, true, true, true, true, true, true, true, false, false, false, false, false] rfl rfl (one_of HT_.out (by kernel_rfl)) (by decide) (fun K hK => ?_)
  refine skip_ (w1 := ?_) (by rfl) rfl ?_ ?_
  rotate_left
  · go_simp
    with_reducible rfl
  refine hK.out _ _ ?_
  clear hK K
  clear z_ c_
  have b0' := b5.set_ 17 (.slice A17 s.f6.f1.length c17)
  have d0' := d5.far (p := ⟨w.heap.size, 17, none⟩) (by simp) (.slice A17 s.f6.f1.length c17)
  have o0' := hO.set (q := ⟨w.heap.size, 17, none⟩) (by show w.heap.size < _; omega) (.slice A17 s.f6.f1.length c17)
  have e0' := hB5.setCell (p := ⟨w.heap.size, 17, none⟩) (Nat.le_refl _) (.slice A17 s.f6.f1.length c17)
  generalize w5.setCell ⟨w.heap.size, 17, none⟩ (.slice A17 s.f6.f1.length c17) = v0 at b0' d0' o0' e0' ⊢
  clear b5 d5 hO hB5
  refine pure_ (i := 14) (N := some 16) (v := ?_) (a' := ?_) #[true, true, true, true, true, true, true, true, true, true, true, true, true, true, true, false, false, false, false] rfl rfl (any_of HT_.out (by kernel_rfl)) (fun _ _ _ h => h) (Or.inl ⟨by rfl, ?_⟩) ?_ ?_
  rotate_left
  · intro w'
    go_simp
    with_reducible rfl
  rotate_left
  · simp only [Act.put, List.setIfInBounds_toArray, List.set_cons_zero, List.set_cons_succ, i64_w, i32_w]
    rfl
  refine pure_ (i := 15) (N := some 17) (v := ?_) (a' := ?_) #[true, true, true, true, true, true, true, true, true, true, true, true, true, true, true, true, false, false, false] rfl rfl (any_of HT_.out (by kernel_rfl)) (fun _ _ _ h => h) (Or.inl ⟨by rfl, ?_⟩) ?_ ?_
  rotate_left
  · intro w'
    go_simp
    with_reducible rfl
  rotate_left
  · simp only [Act.put, List.setIfInBounds_toArray, List.set_cons_zero, List.set_cons_succ, i64_w, i32_w]
    rfl
  have z_ := b0'.frozen 18
  have c_ : _ = some _ := (b0'.cell 18).trans rfl
  refine last_ (i := 16) (N := none) #[true, true, true, true, true, true, true, true, true, true, true, true, true, true, true, true, true, false, false] rfl rfl (one_of HT_.out (by kernel_rfl)) (by decide) (fun K hK => ?_)
  refine skip_ (w1 := ?_) (by rfl) rfl ?_ ?_
  rotate_left
  · go_simp
    with_reducible rfl
  refine hK.out _ _ ?_
  clear hK K
  clear z_ c_
  have b1' := b0'.set_ 18 (.slice A18 s.f6.f2.length c18)
  have d1' := d0'.far (p := ⟨w.heap.size, 18, none⟩) (by simp) (.slice A18 s.f6.f2.length c18)
  have o1' := o0'.set (q := ⟨w.heap.size, 18, none⟩) (by show w.heap.size < _; omega) (.slice A18 s.f6.f2.length c18)
  have e1' := e0'.setCell (p := ⟨w.heap.size, 18, none⟩) (Nat.le_refl _) (.slice A18 s.f6.f2.length c18)
  generalize v0.setCell ⟨w.heap.size, 18, none⟩ (.slice A18 s.f6.f2.length c18) = v1 at b1' d1' o1' e1' ⊢
  clear b0' d0' o0' e0'
  refine pure_ (i := 17) (N := some 18) (v := ?_) (a' := ?_) #[true, true, true, true, true, true, true, true, true, true, true, true, true, true, true, true, true, true, false] rfl rfl (any_of HT_.out (by kernel_rfl)) (fun _ _ _ h => h) (Or.inl ⟨by rfl, ?_⟩) ?_ ?_
  rotate_left
  · intro w'
    go_simp
    with_reducible rfl
  rotate_left
  · simp only [Act.put, List.setIfInBounds_toArray, List.set_cons_zero, List.set_cons_succ, i64_w, i32_w]
    rfl
  have z_ := b1'.frozen 19
  have c_ : _ = some _ := (b1'.cell 19).trans rfl
  refine last_ (i := 18) (N := none) #[true, true, true, true, true, true, true, true, true, true, true, true, true, true, true, true, true, true, true] rfl rfl (one_of HT_.out (by kernel_rfl)) (by decide) (fun K hK => ?_)
  refine skip_ (w1 := ?_) (by rfl) rfl ?_ ?_
  rotate_left
  · go_simp
    with_reducible rfl
  refine hK.out _ _ ?_
  clear hK K
  clear z_ c_
  have b2' := b1'.set_ 19 (.slice A19 s.f7.length c19)
  have d2' := d1'.far (p := ⟨w.heap.size, 19, none⟩) (by simp) (.slice A19 s.f7.length c19)
  have o2' := o1'.set (q := ⟨w.heap.size, 19, none⟩) (by show w.heap.size < _; omega) (.slice A19 s.f7.length c19)
  have e2' := e1'.setCell (p := ⟨w.heap.size, 19, none⟩) (Nat.le_refl _) (.slice A19 s.f7.length c19)
  generalize v1.setCell ⟨w.heap.size, 19, none⟩ (.slice A19 s.f7.length c19) = v2 at b2' d2' o2' e2' ⊢
  clear b1' d1' o1' e1'
  refine done_ (done_of HT_.out (by kernel_rfl)) ?_
  have bz : Blk v2 w.heap.size 33 (sv s ⟨A17, c17, A18, c18, A19, c19⟩) := b2'
  generalize hp' : (⟨A17, c17, A18, c18, A19, c19⟩ : Pt) = p' at bz o2' ⊢
  clear b2' hp'
  go_upto_region 2 with fail
  refine wp_region_list ?_
  refine pl_val (N := some 19) (v := .agg (sv s p')) (a' := ?_) rfl (by rfl) (load_row_run 33 _ rfl (w.heap.size) rfl 33 (sv s p') _ (bz) Tryd.underlying33 rfl (by first | kernel_rfl | rfl)) ?_ ?_
  rotate_left
  · simp only [Act.put, List.setIfInBounds_toArray, List.set_cons_zero, List.set_cons_succ, i64_w, i32_w]
    rfl
  refine pl_skip (W' := _) rfl (by rfl) (store_row_run (g := w.heap.size + 1) 33 _ _ rfl rfl (cells := (sv s p')) rfl 33 (d2') (by first | kernel_rfl | rfl) rfl (sv_one _ _)) ?_
  refine wpList_nil ?_
  go_wp2
  refine bodyPost_ret (v := .agg (sv s p')) (results_cell_row Tryd.results31 _ _ (w.heap.size + 1) 33 (sv s p') (0, 0) _ rfl (Blk.row_ d2' _) Tryd.underlying33 rfl (by kernel_rfl)) rfl ⟨p', rfl, (o2'.row (by omega) _).lower (by omega), Below.row_ e2' (Nat.le_succ _) _⟩
theorem copied_c {s : S33} {p : Pt} {W : World} (hl : Lens s) (hi : In W s p) : Hid (Calls Tryd.prog 31 #[.agg (sv s p)] W fun e w' => ∃ p', e = .returned (.agg (sv s p')) ∧ InO w' W.heap.size s p' ∧ Below W.heap.size W w') := Lib.hid (copied_any s p W hl hi)
end Go.Proofs.YtiamkgoajkfofaaDoor.S
