/- What the row of this claim reaches. No condition. -/
import Derived.Test.YtiamkgoajkfofaaDoorXSAsk
set_option linter.unusedVariables false
set_option linter.unusedSimpArgs false
namespace Go.Proofs.YtiamkgoajkfofaaDoor.S
open Go.RowKit Go.Proofs.YtiamkgoajkfofaaDoorW.PrintWords Go.Proofs.YtiamkgoajkfofaaDoorW.PrintLast Go.Proofs.YtiamkgoajkfofaaDoorW.PrintMore
def wantT (s : S33) : Int × Int × Int := wantF s.f4.f0 s.f4.f2 s.f5 s.f7
theorem tab_part {k part : Int} (h : ¬ tabF k part = 0) : 0 ≤ part ∧ part < 4 := by
  by_cases h0 : part = 0
  · omega
  by_cases h1 : part = 1
  · omega
  by_cases h2 : part = 2
  · omega
  by_cases h3 : part = 3
  · omega
  exfalso
  apply h
  unfold tabF
  simp [h0, h1, h2, h3]
theorem tab_two {part : Int} (h : tabF 4 part = 2) : part = 2 := by
  by_cases h0 : part = 0
  · subst h0; simp [tabF] at h
  by_cases h1 : part = 1
  · subst h1; simp [tabF] at h
  by_cases h2 : part = 2
  · exact h2
  by_cases h3 : part = 3
  · subst h3; simp [tabF] at h
  simp [tabF, h0, h1, h2, h3] at h
theorem may_in {s : S33} (h : mayB s = true) (h3 : s.f0 = 3) : (1 ≤ s.f4.f0 ∧ s.f4.f0 ≤ 6) ∧ (0 ≤ s.f5 ∧ s.f5 < 4) ∧ (tabF s.f4.f0 s.f5 = 2 → s.f4.f0 = 4 → 0 < s.f7.length) := by
  unfold mayB at h
  rw [if_neg (by omega), if_neg (by omega), if_pos h3] at h
  unfold busyB at h
  simp only [Bool.and_eq_true, decide_eq_true_eq] at h
  obtain ⟨_, _, h1, h2, _, h4⟩ := h
  have ht : ¬ tabF s.f4.f0 s.f5 = 0 := by
    intro e
    apply h2
    unfold kindF
    rw [e]
    split <;> rfl
  refine ⟨refuse_in h1, tab_part ht, fun e1 e2 => ?_⟩
  rw [e2] at e1
  have := tab_two e1
  rw [if_pos ⟨e2, this⟩] at h4
  simp only [Bool.and_eq_true, decide_eq_true_eq] at h4
  exact h4.1
theorem want_some {s : S33} (h : mayB s = true) (h3 : s.f0 = 3) : session_want.f s.f0 s.f1 s.f2 s.f3 s.f4.f0 s.f4.f1 s.f4.f2 s.f4.f3.f0 s.f4.f3.f1 s.f4.f3.f2 s.f4.f3.f3 s.f4.f4 s.f5 s.f6.f0.f0 s.f6.f0.f1 s.f6.f0.f2 s.f6.f0.f3 s.f6.f1 s.f6.f2 s.f7 = some ((wantT s).1, (wantT s).2.1, (wantT s).2.2) := by
  obtain ⟨h1, h2, h4⟩ := may_in h h3
  unfold session_want.f
  rw [if_pos ⟨by omega, by omega, h2.1, h2.2, h4⟩]
  rfl
theorem ready_zero {s : S33} (h : readyF s = 0) : mayB s = true ∧ s.f0 = 3 := by
  unfold readyF at h
  by_cases h1 : mayB s = false
  · rw [if_pos h1] at h; cases h
  · rw [if_neg h1] at h
    by_cases h2 : s.f0 = 3
    · exact ⟨by simpa using h1, h2⟩
    · rw [if_neg h2] at h; cases h
def wantsT (s : S33) : Int × Int × Int := if readyF s = 0 then wantT s else (0, 0, 0)
set_option maxHeartbeats 4000000 in
set_option maxRecDepth 100000 in
theorem wants_any (s : S33) (p : Pt) (w : World) (hk : Okk s) (hT : TabIs w) (hi : In w s p) :
    Calls Tryd.prog 13 #[.agg (sv s p)] w fun e w' => e = .returned (.tuple #[.agg #[.int .i64 (wantsT s).1, .int .u32 (wantsT s).2.1, .int .i64 (wantsT s).2.2], .int .i64 (readyF s)]) ∧ Below w.heap.size w w' := by
  obtain ⟨W, hW⟩ : ∃ W, (w.alloc (.cells (sv s p) 33)).alloc (.cells #[.int .i64 0, .int .u32 0, .int .i64 0] 41) = W := ⟨_, rfl⟩
  have b : Blk W w.heap.size 33 (sv s p) := by rw [← hW]; exact (Blk.new w 33 _).alloc _
  have b2 : Blk W (w.heap.size + 1) 41 #[.int .i64 0, .int .u32 0, .int .i64 0] := by rw [← hW]; exact Blk.newAt (by simp)
  have hB : Below w.heap.size w W := by rw [← hW]; exact keep_below_alloc _ (keep_below_alloc _ (Below.refl _ _))
  have HC := ready_c hk (TabIs.below hT hB) (hi.below hB)
  have HI := Lib.hid (hi.below hB)
  have HT := Lib.hid (TabIs.below hT hB)
  have HW := Lib.hid hW
  clear hW hT hi
  obtain ⟨er, her⟩ : ∃ er, readyF s = er := ⟨_, rfl⟩
  rw [her] at HC
  have HE := Lib.hid her
  clear her
  go_enter Tryd.func13, Tryd.ntmps13
  go_upto_region 1 with fail
  rw [HW.out]
  clear HW
  refine wp_region_list ?_
  refine pl_val (N := some 5) (v := .agg (sv s p)) (a' := ?_) rfl (by rfl) (load_row_run 33 _ rfl (w.heap.size) rfl 33 (sv s p) _ (b) Tryd.underlying33 rfl (by first | kernel_rfl | rfl)) ?_ ?_
  rotate_left
  · simp only [Act.put, List.setIfInBounds_toArray, List.set_cons_zero, List.set_cons_succ, i64_w, i32_w]
    rfl
  refine pl_call Tryd.func35 (by kernel_rfl) rfl #[.agg (sv s p)] (by rfl) rfl rfl (by (try simp only [List.map_toArray, List.map_cons, List.map_nil]); first | done | rfl) ?_
  refine HC.out.mono ?_
  rintro e w1 ⟨rfl, hb⟩
  refine ⟨_, rfl, ?_⟩
  have d := b.keep hb
  have d2 := b2.keep hb
  have hB1 := keep_below hB hb
  have HI1 := Lib.hid (HI.out.below hb)
  have HT1 := Lib.hid (TabIs.below HT.out hb)
  clear b b2 hB hb HC HI HT
  refine pl_norm (a' := ?_) ?_ ?_
  rotate_left
  · first | (show Act.put _ (some 6) _ = _; simp only [Act.put, List.setIfInBounds_toArray, List.set_cons_zero, List.set_cons_succ, i64_w, i32_w]; rfl) | with_reducible rfl
  refine pl_val (N := some 4) (v := ?_) (a' := ?_) rfl (by rfl) ?_ ?_ ?_
  rotate_left
  · go_simp
    with_reducible rfl
  rotate_left
  · simp only [Act.put, List.setIfInBounds_toArray, List.set_cons_zero, List.set_cons_succ, i64_w, i32_w]
    rfl
  refine wpList_nil ?_
  by_cases h0 : er = 0
  · subst h0
    have e0 : ((0 : Int) != 0) = false := by simp
    have hr := ready_zero HE.out
    have HWn := want_c (want_some hr.1 hr.2) HT1.out HI1.out
    obtain ⟨⟨r1, r2, r3⟩, hq⟩ : ∃ q, wantT s = q := ⟨_, rfl⟩
    rw [hq] at HWn
    have HQ := Lib.hid hq
    clear hr hq
    go_upto_region 4 with fail
    refine wp_region_list ?_
    refine pl_val (N := some 11) (v := .agg (sv s p)) (a' := ?_) rfl (by rfl) (load_row_run 33 _ rfl (w.heap.size) rfl 33 (sv s p) _ (d) Tryd.underlying33 rfl (by first | kernel_rfl | rfl)) ?_ ?_
    rotate_left
    · simp only [Act.put, List.setIfInBounds_toArray, List.set_cons_zero, List.set_cons_succ, i64_w, i32_w]
      rfl
    refine pl_call Tryd.func36 (by kernel_rfl) rfl #[.agg (sv s p)] (by rfl) rfl rfl (by (try simp only [List.map_toArray, List.map_cons, List.map_nil]); first | done | rfl) ?_
    refine HWn.out.mono ?_
    rintro e w2 ⟨rfl, hb⟩
    refine ⟨_, rfl, ?_⟩
    have f2 := d2.keep hb
    have hB2 := keep_below hB1 hb
    clear d d2 hB1 hb HWn HI1 HT1
    refine pl_norm (a' := ?_) ?_ ?_
    rotate_left
    · first | (show Act.put _ (some 12) _ = _; simp only [Act.put, List.setIfInBounds_toArray, List.set_cons_zero, List.set_cons_succ, i64_w, i32_w]; rfl) | with_reducible rfl
    refine pl_skip (W' := _) rfl (by rfl) (store_row_run (g := w.heap.size + 1) 41 _ _ rfl rfl (cells := #[.int .i64 r1, .int .u32 r2, .int .i64 r3]) rfl 41 (f2) (by first | kernel_rfl | rfl) rfl (by simp [Value.oneCell'])) ?_
    refine pl_val (N := some 3) (v := ?_) (a' := ?_) rfl (by rfl) ?_ ?_ ?_
    rotate_left
    · go_simp
      with_reducible rfl
    rotate_left
    · simp only [Act.put, List.setIfInBounds_toArray, List.set_cons_zero, List.set_cons_succ, i64_w, i32_w]
      rfl
    refine wpList_nil ?_
    go_wp2
    refine bodyPost_ret (v := .tuple #[.agg #[.int .i64 r1, .int .u32 r2, .int .i64 r3], .int .i64 0]) (results_two Tryd.results13 _ _ (w.heap.size + 1) 41 #[.int .i64 r1, .int .u32 r2, .int .i64 r3] (0, 0) _ _ rfl rfl (Blk.row_ f2 _) Tryd.underlying41 rfl (by kernel_rfl)) rfl ⟨by unfold wantsT; rw [if_pos HE.out, HQ.out, HE.out], Below.row_ hB2 (by omega) _⟩
  · have e0 : (er != 0) = true := bne_iff_ne.mpr h0
    have H0 := Lib.hid h0
    clear h0
    go_upto_region 3 with fail
    refine wp_region_list ?_
    refine pl_val (N := some 9) (v := ?_) (a' := ?_) rfl (by rfl) ?_ ?_ ?_
    rotate_left
    · go_simp
      with_reducible rfl
    rotate_left
    · simp only [Act.put, List.setIfInBounds_toArray, List.set_cons_zero, List.set_cons_succ, i64_w, i32_w]
      rfl
    refine pl_val (N := some 10) (v := ?_) (a' := ?_) rfl (by rfl) ?_ ?_ ?_
    rotate_left
    · go_simp
      with_reducible rfl
    rotate_left
    · simp only [Act.put, List.setIfInBounds_toArray, List.set_cons_zero, List.set_cons_succ, i64_w, i32_w]
      rfl
    refine pl_skip (W' := _) rfl (by rfl) (store_row_run (g := w.heap.size + 1) 41 _ _ rfl rfl (cells := #[.int .i64 0, .int .u32 0, .int .i64 0]) rfl 41 (d2) (by first | kernel_rfl | rfl) rfl (by simp [Value.oneCell'])) ?_
    refine pl_val (N := some 3) (v := ?_) (a' := ?_) rfl (by rfl) ?_ ?_ ?_
    rotate_left
    · go_simp
      with_reducible rfl
    rotate_left
    · simp only [Act.put, List.setIfInBounds_toArray, List.set_cons_zero, List.set_cons_succ, i64_w, i32_w]
      rfl
    refine wpList_nil ?_
    go_wp2
    refine bodyPost_ret (v := .tuple #[.agg #[.int .i64 0, .int .u32 0, .int .i64 0], .int .i64 er]) (results_two Tryd.results13 _ _ (w.heap.size + 1) 41 #[.int .i64 0, .int .u32 0, .int .i64 0] (0, 0) _ _ rfl rfl (Blk.row_ d2 _) Tryd.underlying41 rfl (by kernel_rfl)) rfl ⟨by unfold wantsT; rw [if_neg (by rw [HE.out]; exact H0.out), HE.out], Below.row_ hB1 (by omega) _⟩
theorem wants_c {s : S33} {p : Pt} {W : World} (hk : Okk s) (hT : TabIs W) (hi : In W s p) : Hid (Calls Tryd.prog 13 #[.agg (sv s p)] W fun e w' => e = .returned (.tuple #[.agg #[.int .i64 (wantsT s).1, .int .u32 (wantsT s).2.1, .int .i64 (wantsT s).2.2], .int .i64 (readyF s)]) ∧ Below W.heap.size W w') := Lib.hid (wants_any s p W hk hT hi)
def turnE (s : S33) (b : Bool) : Int := if readyF s = 0 then (if b = true then 0 else 2) else readyF s
def turnS (s : S33) (b : Bool) (s' : S33) : S33 := if readyF s = 0 then (if b = true then s' else z33) else z33
theorem turn_end (w W : World) (er : Int) (s s' : S33) (b : Bool) (he : turnE s b = er) (hs : turnS s b s' = z33) (hB : Below w.heap.size w W) :
    ∃ p', Ending.returned (Value.tuple #[.agg (sv z33 p0), .int .i64 er]) = .returned (.tuple #[.agg (sv (turnS s b s') p'), .int .i64 (turnE s b)]) ∧ InR W w.heap.size (turnS s b s') p' ∧ Below w.heap.size w W := by
  rw [he, hs]
  exact ⟨p0, rfl, InR.zero W _, hB⟩
theorem grown_below {W W' : World} {g : Nat} {w : World} (hg : W.grownBy W' (some g)) (hB : Below w.heap.size w W) (h : w.heap.size ≤ g) : Below w.heap.size w W' :=
  ⟨hg.os.trans hB.os, hg.tape.trans hB.tape, hg.output.trans hB.output, Nat.le_trans hB.size hg.size, fun k hk => (hg.block k (Nat.lt_of_lt_of_le hk hB.size) (fun e => by injection e with e; omega)).trans (hB.block k hk)⟩
set_option maxHeartbeats 4000000 in
set_option maxRecDepth 100000 in
theorem turn_any (s : S33) (p : Pt) (i j : FuncId) (fi fj : Func) (cw cd : Array Value) (b : Bool) (s' : S33) (w : World) (hk : Okk s) (hT : TabIs w) (hi : In w s p)
    (hfi : Tryd.prog.funcs[i]? = some fi) (hni : (fi.name == "runtime.NumGoroutine") = false) (hbi : fi.body.isSome = true) (hfj : Tryd.prog.funcs[j]? = some fj) (hnj : (fj.name == "runtime.NumGoroutine") = false) (hbj : fj.body.isSome = true)
    (Hw : readyF s = 0 → ∀ W : World, Below w.heap.size w W → Calls Tryd.prog i (#[.agg #[.int .i64 (wantT s).1, .int .u32 (wantT s).2.1, .int .i64 (wantT s).2.2]] ++ cw) W fun e w' => e = .returned (.bool b) ∧ Below W.heap.size W w')
    (Hd : readyF s = 0 → b = true → ∀ (W : World) (p' : Pt), Below w.heap.size w W → Blk W w.heap.size 33 (sv s p') → InO W (w.heap.size + 1 + 1) s p' → Calls Tryd.prog j (#[.pointer (some ⟨w.heap.size, 0, none⟩)] ++ cd) W fun e w' => e = .returned (.tuple #[]) ∧ W.grownBy w' (some w.heap.size) ∧ ∃ p'', Blk w' w.heap.size 33 (sv s' p'') ∧ InR w' (w.heap.size + 1 + 1) s' p'') :
    Calls Tryd.prog 41 #[.agg (sv s p), .func (.func i) #[] cw, .func (.func j) #[] cd] w fun e w' => ∃ p', e = .returned (.tuple #[.agg (sv (turnS s b s') p'), .int .i64 (turnE s b)]) ∧ InR w' w.heap.size (turnS s b s') p' ∧ Below w.heap.size w w' := by
  obtain ⟨W, hW⟩ : ∃ W, (w.alloc (.cells (sv s p) 33)).alloc (.cells #[.int .i64 0, .int .u64 0, .bool false, .int .u64 0, .int .i64 0, .bool false, .int .u32 0, .int .i64 0, .int .i64 0, .int .i64 0, .int .i64 0, .int .i64 0, .int .i64 0, .int .i64 0, .int .i64 0, .int .i64 0, .int .i64 0, .slice none 0 0, .slice none 0 0, .slice none 0 0] 33) = W := ⟨_, rfl⟩
  have b3 : Blk W w.heap.size 33 (sv s p) := by rw [← hW]; exact (Blk.new w 33 _).alloc _
  have b6 : Blk W (w.heap.size + 1) 33 (sv z33 p0) := by rw [← hW]; exact Blk.newAt (by simp)
  have hB : Below w.heap.size w W := by rw [← hW]; exact keep_below_alloc _ (keep_below_alloc _ (Below.refl _ _))
  have hWs : W.heap.size = w.heap.size + 1 + 1 := by rw [← hW]; simp
  have HC := ready_c hk (TabIs.below hT hB) (hi.below hB)
  have HI := Lib.hid (hi.below hB)
  have HT := Lib.hid (TabIs.below hT hB)
  have HW := Lib.hid hW
  have HWs := Lib.hid hWs
  have HHw := Lib.hid Hw
  have HHd := Lib.hid Hd
  clear hW hT hi hWs Hw Hd
  obtain ⟨er, her⟩ : ∃ er, readyF s = er := ⟨_, rfl⟩
  rw [her] at HC
  have HE := Lib.hid her
  clear her
  go_enter Tryd.func41, Tryd.ntmps41
  go_upto_region 1 with fail
  rw [HW.out]
  clear HW
  refine wp_region_list ?_
  refine pl_val (N := some 9) (v := .agg (sv s p)) (a' := ?_) rfl (by rfl) (load_row_run 33 _ rfl (w.heap.size) rfl 33 (sv s p) _ (b3) Tryd.underlying33 rfl (by first | kernel_rfl | rfl)) ?_ ?_
  rotate_left
  · simp only [Act.put, List.setIfInBounds_toArray, List.set_cons_zero, List.set_cons_succ, i64_w, i32_w]
    rfl
  refine pl_call Tryd.func35 (by kernel_rfl) rfl #[.agg (sv s p)] (by rfl) rfl rfl (by (try simp only [List.map_toArray, List.map_cons, List.map_nil]); first | done | rfl) ?_
  refine HC.out.mono ?_
  rintro e w1 ⟨rfl, hb⟩
  refine ⟨_, rfl, ?_⟩
  have d3 := b3.keep hb
  have d6 := b6.keep hb
  have hB1 := keep_below hB hb
  have HI1 := Lib.hid (HI.out.below hb)
  have HT1 := Lib.hid (TabIs.below HT.out hb)
  have HZ1 := Lib.hid (show w.heap.size + 1 + 1 ≤ w1.heap.size by have := hb.size; rw [HWs.out] at this; exact this)
  clear b3 b6 hB hb HC HI HT HWs
  refine pl_norm (a' := ?_) ?_ ?_
  rotate_left
  · first | (show Act.put _ (some 10) _ = _; simp only [Act.put, List.setIfInBounds_toArray, List.set_cons_zero, List.set_cons_succ, i64_w, i32_w]; rfl) | with_reducible rfl
  refine pl_val (N := some 8) (v := ?_) (a' := ?_) rfl (by rfl) ?_ ?_ ?_
  rotate_left
  · go_simp
    with_reducible rfl
  rotate_left
  · simp only [Act.put, List.setIfInBounds_toArray, List.set_cons_zero, List.set_cons_succ, i64_w, i32_w]
    rfl
  refine wpList_nil ?_
  by_cases h0 : er = 0
  case neg =>
    have e0 : (er != 0) = true := bne_iff_ne.mpr h0
    have H0 := Lib.hid h0
    clear h0
    go_upto_region 3 with fail
    refine wp_region_list ?_
    refine pl_val (N := some 13) (v := .agg (sv z33 p0)) (a' := ?_) rfl (by rfl) (by first | rfl | (go_simp; done) | (go_simp; rfl)) ?_ ?_
    rotate_left
    · simp only [Act.put, List.setIfInBounds_toArray, List.set_cons_zero, List.set_cons_succ, i64_w, i32_w]
      rfl
    refine pl_val (N := some 14) (v := ?_) (a' := ?_) rfl (by rfl) ?_ ?_ ?_
    rotate_left
    · go_simp
      with_reducible rfl
    rotate_left
    · simp only [Act.put, List.setIfInBounds_toArray, List.set_cons_zero, List.set_cons_succ, i64_w, i32_w]
      rfl
    refine pl_skip (W' := _) rfl (by rfl) (store_row_run (g := w.heap.size + 1) 33 _ _ rfl rfl (cells := (sv z33 p0)) rfl 33 (d6) (by first | kernel_rfl | rfl) rfl (sv_one _ _)) ?_
    refine pl_val (N := some 7) (v := ?_) (a' := ?_) rfl (by rfl) ?_ ?_ ?_
    rotate_left
    · go_simp
      with_reducible rfl
    rotate_left
    · simp only [Act.put, List.setIfInBounds_toArray, List.set_cons_zero, List.set_cons_succ, i64_w, i32_w]
      rfl
    refine wpList_nil ?_
    go_wp2
    have n0 : ¬ readyF s = 0 := by rw [HE.out]; exact H0.out
    refine bodyPost_ret (v := .tuple #[.agg (sv z33 p0), .int .i64 er]) (results_two Tryd.results41 _ _ (w.heap.size + 1) 33 (sv z33 p0) (0, 0) _ _ rfl rfl (Blk.row_ d6 _) Tryd.underlying33 rfl (by kernel_rfl)) rfl (turn_end w _ er s s' b (by unfold turnE; rw [if_neg n0, HE.out]) (by unfold turnS; rw [if_neg n0]) (Below.row_ hB1 (by omega) _))
  subst h0
  have e0 : ((0 : Int) != 0) = false := by simp
  have hr := ready_zero HE.out
  have HWn := want_c (want_some hr.1 hr.2) HT1.out HI1.out
  clear hr
  go_upto_region 4 with fail
  refine wp_region_list ?_
  refine pl_val (N := some 15) (v := ?_) (a' := ?_) rfl (by rfl) ?_ ?_ ?_
  rotate_left
  · go_simp
    with_reducible rfl
  rotate_left
  · simp only [Act.put, List.setIfInBounds_toArray, List.set_cons_zero, List.set_cons_succ, i64_w, i32_w]
    rfl
  refine pl_val (N := some 16) (v := .agg (sv s p)) (a' := ?_) rfl (by rfl) (load_row_run 33 _ rfl (w.heap.size) rfl 33 (sv s p) _ (d3) Tryd.underlying33 rfl (by first | kernel_rfl | rfl)) ?_ ?_
  rotate_left
  · simp only [Act.put, List.setIfInBounds_toArray, List.set_cons_zero, List.set_cons_succ, i64_w, i32_w]
    rfl
  refine pl_call Tryd.func36 (by kernel_rfl) rfl #[.agg (sv s p)] (by rfl) rfl rfl (by (try simp only [List.map_toArray, List.map_cons, List.map_nil]); first | done | rfl) ?_
  refine HWn.out.mono ?_
  rintro e w2 ⟨rfl, hb⟩
  refine ⟨_, rfl, ?_⟩
  have f3 := d3.keep hb
  have f6 := d6.keep hb
  have hB2 := keep_below hB1 hb
  have HI2 := Lib.hid (HI1.out.below hb)
  have HZ2 := Lib.hid (show w.heap.size + 1 + 1 ≤ w2.heap.size by have := hb.size; have := HZ1.out; omega)
  clear d3 d6 hB1 hb HWn HI1 HT1 HZ1
  refine pl_norm (a' := ?_) ?_ ?_
  rotate_left
  · first | (show Act.put _ (some 17) _ = _; simp only [Act.put, List.setIfInBounds_toArray, List.set_cons_zero, List.set_cons_succ, i64_w, i32_w]; rfl) | with_reducible rfl
  refine pl_callv (cap := cw) hfi hni hbi (#[.agg #[.int .i64 (wantT s).1, .int .u32 (wantT s).2.1, .int .i64 (wantT s).2.2]] ++ cw) (by rfl) rfl rfl rfl (by (try simp only [List.map_toArray, List.map_cons, List.map_nil]); rfl) ?_
  refine (HHw.out HE.out w2 hB2).mono ?_
  rintro e w3 ⟨rfl, hb⟩
  refine ⟨_, rfl, ?_⟩
  have g3 := f3.keep hb
  have g6 := f6.keep hb
  have hB3 := keep_below hB2 hb
  have HI3 := Lib.hid (HI2.out.below hb)
  have HZ3 := Lib.hid (show w.heap.size + 1 + 1 ≤ w3.heap.size by have := hb.size; have := HZ2.out; omega)
  clear f3 f6 hB2 hb HI2 HZ2 HHw
  refine pl_norm (a' := ?_) ?_ ?_
  rotate_left
  · first | (show Act.put _ (some 18) _ = _; simp only [Act.put, List.setIfInBounds_toArray, List.set_cons_zero, List.set_cons_succ, i64_w, i32_w]; rfl) | with_reducible rfl
  cases hb : b
  · have Hb := Lib.hid hb
    clear hb
    refine pl_val (N := some 19) (v := ?_) (a' := ?_) rfl (by rfl) ?_ ?_ ?_
    rotate_left
    · go_simp
      with_reducible rfl
    rotate_left
    · simp only [Act.put, List.setIfInBounds_toArray, List.set_cons_zero, List.set_cons_succ, i64_w, i32_w]
      rfl
    refine wpList_nil ?_
    go_upto_region 5 with fail
    refine wp_region_list ?_
    refine pl_val (N := some 20) (v := .agg (sv z33 p0)) (a' := ?_) rfl (by rfl) (by first | rfl | (go_simp; done) | (go_simp; rfl)) ?_ ?_
    rotate_left
    · simp only [Act.put, List.setIfInBounds_toArray, List.set_cons_zero, List.set_cons_succ, i64_w, i32_w]
      rfl
    refine pl_skip (W' := _) rfl (by rfl) (store_row_run (g := w.heap.size + 1) 33 _ _ rfl rfl (cells := (sv z33 p0)) rfl 33 (g6) (by first | kernel_rfl | rfl) rfl (sv_one _ _)) ?_
    refine pl_val (N := some 7) (v := ?_) (a' := ?_) rfl (by rfl) ?_ ?_ ?_
    rotate_left
    · go_simp
      with_reducible rfl
    rotate_left
    · simp only [Act.put, List.setIfInBounds_toArray, List.set_cons_zero, List.set_cons_succ, i64_w, i32_w]
      rfl
    refine wpList_nil ?_
    go_wp2
    refine bodyPost_ret (v := .tuple #[.agg (sv z33 p0), .int .i64 2]) (results_two Tryd.results41 _ _ (w.heap.size + 1) 33 (sv z33 p0) (0, 0) _ _ rfl rfl (Blk.row_ g6 _) Tryd.underlying33 rfl (by kernel_rfl)) rfl (turn_end w _ 2 s s' b (by unfold turnE; rw [if_pos HE.out, Hb.out]; rfl) (by unfold turnS; rw [if_pos HE.out, Hb.out]; rfl) (Below.row_ hB3 (by omega) _))
  · have Hb := Lib.hid hb
    clear hb
    refine pl_val (N := some 19) (v := ?_) (a' := ?_) rfl (by rfl) ?_ ?_ ?_
    rotate_left
    · go_simp
      with_reducible rfl
    rotate_left
    · simp only [Act.put, List.setIfInBounds_toArray, List.set_cons_zero, List.set_cons_succ, i64_w, i32_w]
      rfl
    refine wpList_nil ?_
    have HCp := copied_c hk.1 HI3.out
    go_upto_region 6 with fail
    refine wp_region_list ?_
    refine pl_val (N := some 21) (v := .agg (sv s p)) (a' := ?_) rfl (by rfl) (load_row_run 33 _ rfl (w.heap.size) rfl 33 (sv s p) _ (g3) Tryd.underlying33 rfl (by first | kernel_rfl | rfl)) ?_ ?_
    rotate_left
    · simp only [Act.put, List.setIfInBounds_toArray, List.set_cons_zero, List.set_cons_succ, i64_w, i32_w]
      rfl
    refine pl_call Tryd.func31 (by kernel_rfl) rfl #[.agg (sv s p)] (by rfl) rfl rfl (by (try simp only [List.map_toArray, List.map_cons, List.map_nil]); first | done | rfl) ?_
    refine HCp.out.mono ?_
    rintro e w4 ⟨p', rfl, hO, hb⟩
    refine ⟨_, rfl, ?_⟩
    have i3 := g3.keep hb
    have i6 := g6.keep hb
    have hB4 := keep_below hB3 hb
    have hZ3 := HZ3.out
    clear g3 g6 hB3 hb HCp HI3
    refine pl_norm (a' := ?_) ?_ ?_
    rotate_left
    · first | (show Act.put _ (some 22) _ = _; simp only [Act.put, List.setIfInBounds_toArray, List.set_cons_zero, List.set_cons_succ, i64_w, i32_w]; rfl) | with_reducible rfl
    refine pl_skip (W' := _) rfl (by rfl) (store_row_run (g := w.heap.size) 33 _ _ rfl rfl (cells := (sv s p')) rfl 33 (i3) (by first | kernel_rfl | rfl) rfl (sv_one _ _)) ?_
    refine wpList_nil ?_
    have j3 := Blk.row_ i3 (sv s p')
    have j6 := Blk.row_far i6 (by omega : w.heap.size + 1 ≠ w.heap.size) (sv s p')
    have hB5 := Below.row_ hB4 (Nat.le_refl _) (sv s p')
    have hO5 := (hO.lower (b' := w.heap.size + 1 + 1) (by omega)).row (g := w.heap.size) (by omega) (sv s p')
    generalize w4.setRow w.heap.size (sv s p') = w5 at j3 j6 hB5 hO5 ⊢
    clear i3 i6 hB4 hO
    have HD := Lib.hid (HHd.out HE.out Hb.out w5 p' hB5 j3 hO5)
    clear HHd
    go_upto_region 7 with fail
    refine wp_region_list ?_
    refine pl_val (N := some 23) (v := ?_) (a' := ?_) rfl (by rfl) ?_ ?_ ?_
    rotate_left
    · go_simp
      with_reducible rfl
    rotate_left
    · simp only [Act.put, List.setIfInBounds_toArray, List.set_cons_zero, List.set_cons_succ, i64_w, i32_w]
      rfl
    refine pl_callv (cap := cd) hfj hnj hbj (#[.pointer (some ⟨w.heap.size, 0, none⟩)] ++ cd) (by rfl) rfl rfl rfl (by (try simp only [List.map_toArray, List.map_cons, List.map_nil]); rfl) ?_
    refine HD.out.mono ?_
    rintro e w6 ⟨rfl, hg, p'', k3, hO6⟩
    refine ⟨_, rfl, ?_⟩
    have k6 := j6.grown hg (by simp)
    have hB6 := grown_below hg hB5 (Nat.le_refl _)
    clear j3 j6 hB5 hO5 hg HD
    refine pl_norm (a' := ?_) ?_ ?_
    rotate_left
    · first | (show Act.put _ (some 24) _ = _; simp only [Act.put, List.setIfInBounds_toArray, List.set_cons_zero, List.set_cons_succ, i64_w, i32_w]; rfl) | with_reducible rfl
    refine wpList_nil ?_
    go_upto_region 8 with fail
    refine wp_region_list ?_
    refine pl_val (N := some 25) (v := .agg (sv s' p'')) (a' := ?_) rfl (by rfl) (load_row_run 33 _ rfl (w.heap.size) rfl 33 (sv s' p'') _ (k3) Tryd.underlying33 rfl (by first | kernel_rfl | rfl)) ?_ ?_
    rotate_left
    · simp only [Act.put, List.setIfInBounds_toArray, List.set_cons_zero, List.set_cons_succ, i64_w, i32_w]
      rfl
    refine pl_skip (W' := _) rfl (by rfl) (store_row_run (g := w.heap.size + 1) 33 _ _ rfl rfl (cells := (sv s' p'')) rfl 33 (k6) (by first | kernel_rfl | rfl) rfl (sv_one _ _)) ?_
    refine pl_val (N := some 7) (v := ?_) (a' := ?_) rfl (by rfl) ?_ ?_ ?_
    rotate_left
    · go_simp
      with_reducible rfl
    rotate_left
    · simp only [Act.put, List.setIfInBounds_toArray, List.set_cons_zero, List.set_cons_succ, i64_w, i32_w]
      rfl
    refine wpList_nil ?_
    go_wp2
    have hS : turnS s b s' = s' := by unfold turnS; rw [if_pos HE.out, if_pos Hb.out]
    have hE : turnE s b = 0 := by unfold turnE; rw [if_pos HE.out, if_pos Hb.out]
    refine bodyPost_ret (v := .tuple #[.agg (sv s' p''), .int .i64 0]) (results_two Tryd.results41 _ _ (w.heap.size + 1) 33 (sv s' p'') (0, 0) _ _ rfl rfl (Blk.row_ k6 _) Tryd.underlying33 rfl (by kernel_rfl)) rfl ?_
    rw [hS, hE]
    exact ⟨p'', rfl, (hO6.row (g := w.heap.size + 1) (by omega) _).lower (by omega), Below.row_ hB6 (by omega) _⟩
end Go.Proofs.YtiamkgoajkfofaaDoor.S
