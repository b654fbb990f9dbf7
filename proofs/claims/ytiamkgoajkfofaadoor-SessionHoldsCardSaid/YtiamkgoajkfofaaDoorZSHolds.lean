/- What the row of this claim reaches. No condition. -/
import Derived.Test.YtiamkgoajkfofaaDoorZSAskP
set_option linter.unusedVariables false
set_option linter.unusedSimpArgs false
namespace Go.Proofs.YtiamkgoajkfofaaDoor.S
open Go.RowKit Go.Proofs.YtiamkgoajkfofaaDoorW.PrintWords Go.Proofs.YtiamkgoajkfofaaDoorW.PrintLast Go.Proofs.YtiamkgoajkfofaaDoorW.PrintMore
set_option maxHeartbeats 8000000 in
set_option maxRecDepth 100000 in
theorem holds_any (s : S33) (p : Pt) (c : Int) (o : S27) (w : World) (hp : ∀ x ∈ s.f6.f2, 0 ≤ x) (hT : TabIs w) (hi : In w s p) :
    Calls Tryd.prog 3 #[.agg (sv s p), .int .i64 c, .agg (ov o)] w fun e w' => e = .returned (.bool true) ∧ Below w.heap.size w w' := by
  obtain ⟨W, hW⟩ : ∃ W, (w.alloc (.cells (sv s p) 33)).alloc (.cells (ov o) 27) = W := ⟨_, rfl⟩
  have b3 : Blk W w.heap.size 33 (sv s p) := by rw [← hW]; exact (Blk.new w 33 _).alloc _
  have b5 : Blk W (w.heap.size + 1) 27 (ov o) := by rw [← hW]; exact Blk.newAt (by simp)
  have hB : Below w.heap.size w W := by rw [← hW]; exact keep_below_alloc _ (keep_below_alloc _ (Below.refl _ _))
  have hI := hi.below hB
  have HT := Lib.hid (TabIs.below hT hB)
  have HW := Lib.hid hW
  have HP := Lib.hid hp
  clear hW hT hi hp
  go_enter Tryd.func3, Tryd.ntmps3
  go_upto_region 1 with fail
  rw [HW.out]
  clear HW
  have HC := wakes_c HT.out
  refine wp_region_list ?_
  refine pl_call Tryd.func8 (by kernel_rfl) rfl #[] (by rfl) rfl rfl (by (try simp only [List.map_toArray, List.map_cons, List.map_nil]); first | done | rfl) ?_
  refine (HC.out).mono ?_
  rintro e_ w1_ ⟨rfl, hb⟩
  refine ⟨_, rfl, ?_⟩
  replace b3 := b3.keep hb
  replace b5 := b5.keep hb
  replace hB := keep_below hB hb
  replace hI := hI.below hb
  replace HT := Lib.hid (TabIs.below HT.out hb)
  clear hb
  refine pl_norm (a' := ?_) ?_ ?_
  rotate_left
  · first | (show Act.put _ (some 15) _ = _; simp only [Act.put, List.setIfInBounds_toArray, List.set_cons_zero, List.set_cons_succ, i64_w, i32_w]; rfl) | with_reducible rfl
  clear HC
  refine pl_val (N := some 16) (v := ?_) (a' := ?_) rfl (by rfl) ?_ ?_ ?_
  rotate_left
  · go_simp
    with_reducible rfl
  rotate_left
  · simp only [Act.put, List.setIfInBounds_toArray, List.set_cons_zero, List.set_cons_succ, i64_w, i32_w]
    rfl
  refine wpList_nil ?_
  have HC := large_c hI
  go_upto_region 3 with fail
  refine wp_region_list ?_
  refine pl_val (N := some 17) (v := .agg (sv s p)) (a' := ?_) rfl (by rfl) (load_row_run 33 _ rfl (w.heap.size) rfl 33 (sv s p) _ (b3) Tryd.underlying33 rfl (by first | kernel_rfl | rfl)) ?_ ?_
  rotate_left
  · simp only [Act.put, List.setIfInBounds_toArray, List.set_cons_zero, List.set_cons_succ, i64_w, i32_w]
    rfl
  refine pl_call Tryd.func9 (by kernel_rfl) rfl #[.agg (sv s p)] (by rfl) rfl rfl (by (try simp only [List.map_toArray, List.map_cons, List.map_nil]); first | done | rfl) ?_
  refine (HC.out).mono ?_
  rintro e_ w2_ ⟨rfl, hb⟩
  refine ⟨_, rfl, ?_⟩
  replace b3 := b3.keep hb
  replace b5 := b5.keep hb
  replace hB := keep_below hB hb
  replace hI := hI.below hb
  replace HT := Lib.hid (TabIs.below HT.out hb)
  clear hb
  refine pl_norm (a' := ?_) ?_ ?_
  rotate_left
  · first | (show Act.put _ (some 18) _ = _; simp only [Act.put, List.setIfInBounds_toArray, List.set_cons_zero, List.set_cons_succ, i64_w, i32_w]; rfl) | with_reducible rfl
  clear HC
  refine wpList_nil ?_
  cases hl : largeB s
  case true =>
    clear hl
    go_wp2
    go_ret
    exact ⟨rfl, hB⟩
  have hk : Okk s := ⟨not_large hl, HP.out⟩
  clear hl HP
  obtain ⟨er, her⟩ : ∃ er, askE s c o = er := ⟨_, rfl⟩
  obtain ⟨t, ht⟩ : ∃ t, askS s c o = t := ⟨_, rfl⟩
  have HE := Lib.hid her
  have HS := Lib.hid ht
  have HC := ask_c (c := c) (o := o) hk HT.out hI
  rw [her, ht] at HC
  clear her ht
  go_upto_region 5 with fail
  refine wp_region_list ?_
  refine pl_val (N := some 20) (v := .agg (sv s p)) (a' := ?_) rfl (by rfl) (load_row_run 33 _ rfl (w.heap.size) rfl 33 (sv s p) _ (b3) Tryd.underlying33 rfl (by first | kernel_rfl | rfl)) ?_ ?_
  rotate_left
  · simp only [Act.put, List.setIfInBounds_toArray, List.set_cons_zero, List.set_cons_succ, i64_w, i32_w]
    rfl
  refine pl_val (N := some 21) (v := ?_) (a' := ?_) rfl (by rfl) ?_ ?_ ?_
  rotate_left
  · go_simp
    with_reducible rfl
  rotate_left
  · simp only [Act.put, List.setIfInBounds_toArray, List.set_cons_zero, List.set_cons_succ, i64_w, i32_w]
    rfl
  refine pl_val (N := some 22) (v := .agg (ov o)) (a' := ?_) rfl (by rfl) (load_row_run 27 _ rfl (w.heap.size + 1) rfl 27 (ov o) _ (b5) Tryd.underlying27 rfl (by first | kernel_rfl | rfl)) ?_ ?_
  rotate_left
  · simp only [Act.put, List.setIfInBounds_toArray, List.set_cons_zero, List.set_cons_succ, i64_w, i32_w]
    rfl
  refine pl_call Tryd.func10 (by kernel_rfl) rfl #[.agg (sv s p), .int .i64 c, .agg (ov o)] (by rfl) rfl rfl (by (try simp only [List.map_toArray, List.map_cons, List.map_nil]); first | done | rfl) ?_
  refine (HC.out).mono ?_
  rintro e_ w3_ ⟨p7, rfl, h7, hb⟩
  refine ⟨_, rfl, ?_⟩
  replace b3 := b3.keep hb
  replace b5 := b5.keep hb
  replace hB := keep_below hB hb
  replace hI := hI.below hb
  replace HT := Lib.hid (TabIs.below HT.out hb)
  clear hb
  refine pl_norm (a' := ?_) ?_ ?_
  rotate_left
  · first | (show Act.put _ (some 23) _ = _; simp only [Act.put, List.setIfInBounds_toArray, List.set_cons_zero, List.set_cons_succ, i64_w, i32_w]; rfl) | with_reducible rfl
  clear HC
  refine pl_val (N := some 19) (v := ?_) (a' := ?_) rfl (by rfl) ?_ ?_ ?_
  rotate_left
  · go_simp
    with_reducible rfl
  rotate_left
  · simp only [Act.put, List.setIfInBounds_toArray, List.set_cons_zero, List.set_cons_succ, i64_w, i32_w]
    rfl
  refine pl_val (N := some 24) (v := ?_) (a' := ?_) rfl (by rfl) ?_ ?_ ?_
  rotate_left
  · go_simp
    with_reducible rfl
  rotate_left
  · simp only [Act.put, List.setIfInBounds_toArray, List.set_cons_zero, List.set_cons_succ, i64_w, i32_w]
    rfl
  refine pl_val (N := some 25) (v := ?_) (a' := ?_) rfl (by rfl) ?_ ?_ ?_
  rotate_left
  · go_simp
    with_reducible rfl
  rotate_left
  · simp only [Act.put, List.setIfInBounds_toArray, List.set_cons_zero, List.set_cons_succ, i64_w, i32_w]
    rfl
  refine pl_make (N := some 7) (v := .pointer (some ⟨(w3_).heap.size, 0, none⟩)) (W' := (w3_).alloc (.cells #[.int .i64 0, .int .u64 0, .bool false, .int .u64 0, .int .i64 0, .bool false, .int .u32 0, .int .i64 0, .int .i64 0, .int .i64 0, .int .i64 0, .int .i64 0, .int .i64 0, .int .i64 0, .int .i64 0, .int .i64 0, .int .i64 0, .slice none 0 0, .slice none 0 0, .slice none 0 0] 33)) (a' := ?_) rfl (by rfl) (by first | (go_simp; done) | (go_simp; rfl)) ?_ ?_
  rotate_left
  · simp only [Act.put, List.setIfInBounds_toArray, List.set_cons_zero, List.set_cons_succ, i64_w, i32_w]
    rfl
  have n_ := new_row w3_ #[.int .i64 0, .int .u64 0, .bool false, .int .u64 0, .int .i64 0, .bool false, .int .u32 0, .int .i64 0, .int .i64 0, .int .i64 0, .int .i64 0, .int .i64 0, .int .i64 0, .int .i64 0, .int .i64 0, .int .i64 0, .int .i64 0, .slice none 0 0, .slice none 0 0, .slice none 0 0] (sv t p7) 33
  have b_ : Blk (w3_.alloc (.cells #[.int .i64 0, .int .u64 0, .bool false, .int .u64 0, .int .i64 0, .bool false, .int .u32 0, .int .i64 0, .int .i64 0, .int .i64 0, .int .i64 0, .int .i64 0, .int .i64 0, .int .i64 0, .int .i64 0, .int .i64 0, .int .i64 0, .slice none 0 0, .slice none 0 0, .slice none 0 0] 33)) w3_.heap.size 33 #[.int .i64 0, .int .u64 0, .bool false, .int .u64 0, .int .i64 0, .bool false, .int .u32 0, .int .i64 0, .int .i64 0, .int .i64 0, .int .i64 0, .int .i64 0, .int .i64 0, .int .i64 0, .int .i64 0, .int .i64 0, .int .i64 0, .slice none 0 0, .slice none 0 0, .slice none 0 0] := Blk.new w3_ 33 _
  refine pl_skip (W' := _) rfl (by rfl) (store_row_run (g := w3_.heap.size) 33 _ _ rfl rfl (cells := (sv t p7)) rfl 33 (b_) (by first | kernel_rfl | rfl) rfl (sv_one _ _)) ?_
  clear b_
  obtain ⟨b7, hle⟩ := n_
  have Sb7 := Lib.hid (show w.heap.size ≤ w3_.heap.size from hB.size)
  replace b3 := b3.keep hle
  replace b5 := b5.keep hle
  replace hB := keep_below hB hle
  replace hI := hI.below hle
  replace HT := Lib.hid (TabIs.below HT.out hle)
  replace h7 := h7.below hle
  generalize (w3_.alloc (.cells #[.int .i64 0, .int .u64 0, .bool false, .int .u64 0, .int .i64 0, .bool false, .int .u32 0, .int .i64 0, .int .i64 0, .int .i64 0, .int .i64 0, .int .i64 0, .int .i64 0, .int .i64 0, .int .i64 0, .int .i64 0, .int .i64 0, .slice none 0 0, .slice none 0 0, .slice none 0 0] 33)).setRow w3_.heap.size (sv t p7) = w4_ at b3 b5 hB hI HT h7 b7 hle ⊢
  clear hle
  refine pl_val (N := some 8) (v := ?_) (a' := ?_) rfl (by rfl) ?_ ?_ ?_
  rotate_left
  · go_simp
    with_reducible rfl
  rotate_left
  · simp only [Act.put, List.setIfInBounds_toArray, List.set_cons_zero, List.set_cons_succ, i64_w, i32_w]
    rfl
  refine wpList_nil ?_
  have HC := ask_c (c := c) (o := o) hk HT.out hI
  rw [HE.out, HS.out] at HC
  go_upto_region 6 with fail
  refine wp_region_list ?_
  refine pl_val (N := some 27) (v := .agg (sv s p)) (a' := ?_) rfl (by rfl) (load_row_run 33 _ rfl (w.heap.size) rfl 33 (sv s p) _ (b3) Tryd.underlying33 rfl (by first | kernel_rfl | rfl)) ?_ ?_
  rotate_left
  · simp only [Act.put, List.setIfInBounds_toArray, List.set_cons_zero, List.set_cons_succ, i64_w, i32_w]
    rfl
  refine pl_val (N := some 28) (v := ?_) (a' := ?_) rfl (by rfl) ?_ ?_ ?_
  rotate_left
  · go_simp
    with_reducible rfl
  rotate_left
  · simp only [Act.put, List.setIfInBounds_toArray, List.set_cons_zero, List.set_cons_succ, i64_w, i32_w]
    rfl
  refine pl_val (N := some 29) (v := .agg (ov o)) (a' := ?_) rfl (by rfl) (load_row_run 27 _ rfl (w.heap.size + 1) rfl 27 (ov o) _ (b5) Tryd.underlying27 rfl (by first | kernel_rfl | rfl)) ?_ ?_
  rotate_left
  · simp only [Act.put, List.setIfInBounds_toArray, List.set_cons_zero, List.set_cons_succ, i64_w, i32_w]
    rfl
  refine pl_call Tryd.func10 (by kernel_rfl) rfl #[.agg (sv s p), .int .i64 c, .agg (ov o)] (by rfl) rfl rfl (by (try simp only [List.map_toArray, List.map_cons, List.map_nil]); first | done | rfl) ?_
  refine (HC.out).mono ?_
  rintro e_ w5_ ⟨p9, rfl, h9, hb⟩
  refine ⟨_, rfl, ?_⟩
  replace b3 := b3.keep hb
  replace b5 := b5.keep hb
  replace hB := keep_below hB hb
  replace hI := hI.below hb
  replace HT := Lib.hid (TabIs.below HT.out hb)
  replace h7 := h7.below hb
  replace b7 := b7.keep hb
  clear hb
  refine pl_norm (a' := ?_) ?_ ?_
  rotate_left
  · first | (show Act.put _ (some 30) _ = _; simp only [Act.put, List.setIfInBounds_toArray, List.set_cons_zero, List.set_cons_succ, i64_w, i32_w]; rfl) | with_reducible rfl
  clear HC
  refine pl_val (N := some 26) (v := ?_) (a' := ?_) rfl (by rfl) ?_ ?_ ?_
  rotate_left
  · go_simp
    with_reducible rfl
  rotate_left
  · simp only [Act.put, List.setIfInBounds_toArray, List.set_cons_zero, List.set_cons_succ, i64_w, i32_w]
    rfl
  refine pl_val (N := some 31) (v := ?_) (a' := ?_) rfl (by rfl) ?_ ?_ ?_
  rotate_left
  · go_simp
    with_reducible rfl
  rotate_left
  · simp only [Act.put, List.setIfInBounds_toArray, List.set_cons_zero, List.set_cons_succ, i64_w, i32_w]
    rfl
  refine pl_val (N := some 32) (v := ?_) (a' := ?_) rfl (by rfl) ?_ ?_ ?_
  rotate_left
  · go_simp
    with_reducible rfl
  rotate_left
  · simp only [Act.put, List.setIfInBounds_toArray, List.set_cons_zero, List.set_cons_succ, i64_w, i32_w]
    rfl
  refine pl_make (N := some 9) (v := .pointer (some ⟨(w5_).heap.size, 0, none⟩)) (W' := (w5_).alloc (.cells #[.int .i64 0, .int .u64 0, .bool false, .int .u64 0, .int .i64 0, .bool false, .int .u32 0, .int .i64 0, .int .i64 0, .int .i64 0, .int .i64 0, .int .i64 0, .int .i64 0, .int .i64 0, .int .i64 0, .int .i64 0, .int .i64 0, .slice none 0 0, .slice none 0 0, .slice none 0 0] 33)) (a' := ?_) rfl (by rfl) (by first | (go_simp; done) | (go_simp; rfl)) ?_ ?_
  rotate_left
  · simp only [Act.put, List.setIfInBounds_toArray, List.set_cons_zero, List.set_cons_succ, i64_w, i32_w]
    rfl
  have n_ := new_row w5_ #[.int .i64 0, .int .u64 0, .bool false, .int .u64 0, .int .i64 0, .bool false, .int .u32 0, .int .i64 0, .int .i64 0, .int .i64 0, .int .i64 0, .int .i64 0, .int .i64 0, .int .i64 0, .int .i64 0, .int .i64 0, .int .i64 0, .slice none 0 0, .slice none 0 0, .slice none 0 0] (sv t p9) 33
  have b_ : Blk (w5_.alloc (.cells #[.int .i64 0, .int .u64 0, .bool false, .int .u64 0, .int .i64 0, .bool false, .int .u32 0, .int .i64 0, .int .i64 0, .int .i64 0, .int .i64 0, .int .i64 0, .int .i64 0, .int .i64 0, .int .i64 0, .int .i64 0, .int .i64 0, .slice none 0 0, .slice none 0 0, .slice none 0 0] 33)) w5_.heap.size 33 #[.int .i64 0, .int .u64 0, .bool false, .int .u64 0, .int .i64 0, .bool false, .int .u32 0, .int .i64 0, .int .i64 0, .int .i64 0, .int .i64 0, .int .i64 0, .int .i64 0, .int .i64 0, .int .i64 0, .int .i64 0, .int .i64 0, .slice none 0 0, .slice none 0 0, .slice none 0 0] := Blk.new w5_ 33 _
  refine pl_skip (W' := _) rfl (by rfl) (store_row_run (g := w5_.heap.size) 33 _ _ rfl rfl (cells := (sv t p9)) rfl 33 (b_) (by first | kernel_rfl | rfl) rfl (sv_one _ _)) ?_
  clear b_
  obtain ⟨b9, hle⟩ := n_
  have Sb9 := Lib.hid (show w.heap.size ≤ w5_.heap.size from hB.size)
  replace b3 := b3.keep hle
  replace b5 := b5.keep hle
  replace hB := keep_below hB hle
  replace hI := hI.below hle
  replace HT := Lib.hid (TabIs.below HT.out hle)
  replace h7 := h7.below hle
  replace b7 := b7.keep hle
  replace h9 := h9.below hle
  generalize (w5_.alloc (.cells #[.int .i64 0, .int .u64 0, .bool false, .int .u64 0, .int .i64 0, .bool false, .int .u32 0, .int .i64 0, .int .i64 0, .int .i64 0, .int .i64 0, .int .i64 0, .int .i64 0, .int .i64 0, .int .i64 0, .int .i64 0, .int .i64 0, .slice none 0 0, .slice none 0 0, .slice none 0 0] 33)).setRow w5_.heap.size (sv t p9) = w6_ at b3 b5 hB hI HT h7 b7 h9 b9 hle ⊢
  clear hle
  refine pl_val (N := some 10) (v := ?_) (a' := ?_) rfl (by rfl) ?_ ?_ ?_
  rotate_left
  · go_simp
    with_reducible rfl
  rotate_left
  · simp only [Act.put, List.setIfInBounds_toArray, List.set_cons_zero, List.set_cons_succ, i64_w, i32_w]
    rfl
  refine wpList_nil ?_
  have hkt : Okk t := by
    rw [← HS.out]
    by_cases h0 : er = 0
    · exact (ask_ok (HE.out.trans h0)).2.2.2.2 hk
    · rw [askS_refused (by rw [HE.out]; exact h0)]; exact ⟨⟨by decide, by decide, by decide⟩, fun x h => by cases h⟩
  have ee : (er != er) = false := by simp
  have HC := same_c hkt.1 h7.In h9.In
  rw [sameB_refl] at HC
  go_upto_region 7 with fail
  refine wp_region_list ?_
  refine pl_val (N := some 33) (v := ?_) (a' := ?_) rfl (by rfl) ?_ ?_ ?_
  rotate_left
  · go_simp
    with_reducible rfl
  rotate_left
  · simp only [Act.put, List.setIfInBounds_toArray, List.set_cons_zero, List.set_cons_succ, i64_w, i32_w]
    rfl
  refine pl_val (N := some 34) (v := ?_) (a' := ?_) rfl (by rfl) ?_ ?_ ?_
  rotate_left
  · go_simp
    with_reducible rfl
  rotate_left
  · simp only [Act.put, List.setIfInBounds_toArray, List.set_cons_zero, List.set_cons_succ, i64_w, i32_w]
    rfl
  refine pl_val (N := some 35) (v := ?_) (a' := ?_) rfl (by rfl) ?_ ?_ ?_
  rotate_left
  · go_simp
    with_reducible rfl
  rotate_left
  · simp only [Act.put, List.setIfInBounds_toArray, List.set_cons_zero, List.set_cons_succ, i64_w, i32_w]
    rfl
  refine pl_val (N := some 36) (v := ?_) (a' := ?_) rfl (by rfl) ?_ ?_ ?_
  rotate_left
  · go_simp
    with_reducible rfl
  rotate_left
  · simp only [Act.put, List.setIfInBounds_toArray, List.set_cons_zero, List.set_cons_succ, i64_w, i32_w]
    rfl
  refine pl_val (N := some 37) (v := .agg (sv t p7)) (a' := ?_) rfl (by rfl) (load_row_run 33 _ rfl (w3_.heap.size) rfl 33 (sv t p7) _ (b7) Tryd.underlying33 rfl (by first | kernel_rfl | rfl)) ?_ ?_
  rotate_left
  · simp only [Act.put, List.setIfInBounds_toArray, List.set_cons_zero, List.set_cons_succ, i64_w, i32_w]
    rfl
  refine pl_val (N := some 38) (v := .agg (sv t p9)) (a' := ?_) rfl (by rfl) (load_row_run 33 _ rfl (w5_.heap.size) rfl 33 (sv t p9) _ (b9) Tryd.underlying33 rfl (by first | kernel_rfl | rfl)) ?_ ?_
  rotate_left
  · simp only [Act.put, List.setIfInBounds_toArray, List.set_cons_zero, List.set_cons_succ, i64_w, i32_w]
    rfl
  refine pl_call Tryd.func11 (by kernel_rfl) rfl #[.agg (sv t p7), .agg (sv t p9)] (by rfl) rfl rfl (by (try simp only [List.map_toArray, List.map_cons, List.map_nil]); first | done | rfl) ?_
  refine (HC.out).mono ?_
  rintro e_ w7_ ⟨rfl, hb⟩
  refine ⟨_, rfl, ?_⟩
  replace b3 := b3.keep hb
  replace b5 := b5.keep hb
  replace hB := keep_below hB hb
  replace hI := hI.below hb
  replace HT := Lib.hid (TabIs.below HT.out hb)
  replace h7 := h7.below hb
  replace b7 := b7.keep hb
  replace h9 := h9.below hb
  replace b9 := b9.keep hb
  clear hb
  refine pl_norm (a' := ?_) ?_ ?_
  rotate_left
  · first | (show Act.put _ (some 39) _ = _; simp only [Act.put, List.setIfInBounds_toArray, List.set_cons_zero, List.set_cons_succ, i64_w, i32_w]; rfl) | with_reducible rfl
  clear HC
  refine pl_val (N := some 40) (v := ?_) (a' := ?_) rfl (by rfl) ?_ ?_ ?_
  rotate_left
  · go_simp
    with_reducible rfl
  rotate_left
  · simp only [Act.put, List.setIfInBounds_toArray, List.set_cons_zero, List.set_cons_succ, i64_w, i32_w]
    rfl
  refine pl_val (N := some 41) (v := ?_) (a' := ?_) rfl (by rfl) ?_ ?_ ?_
  rotate_left
  · go_simp
    with_reducible rfl
  rotate_left
  · simp only [Act.put, List.setIfInBounds_toArray, List.set_cons_zero, List.set_cons_succ, i64_w, i32_w]
    rfl
  refine wpList_nil ?_
  clear ee
  by_cases h0 : er = 0
  case neg =>
    have HC := none_c hkt.1 h7.In
    have hz : sameB t z33 = true := by rw [← HS.out, askS_refused (by rw [HE.out]; exact h0)]; exact sameB_refl _
    rw [hz] at HC
    have e0 : (er != 0) = true := bne_iff_ne.mpr h0
    clear h0 hz
    go_upto_region 10 with fail
    refine wp_region_list ?_
    refine pl_val (N := some 44) (v := .agg (sv t p7)) (a' := ?_) rfl (by rfl) (load_row_run 33 _ rfl (w3_.heap.size) rfl 33 (sv t p7) _ (b7) Tryd.underlying33 rfl (by first | kernel_rfl | rfl)) ?_ ?_
    rotate_left
    · simp only [Act.put, List.setIfInBounds_toArray, List.set_cons_zero, List.set_cons_succ, i64_w, i32_w]
      rfl
    refine pl_call Tryd.func12 (by kernel_rfl) rfl #[.agg (sv t p7)] (by rfl) rfl rfl (by (try simp only [List.map_toArray, List.map_cons, List.map_nil]); first | done | rfl) ?_
    refine (HC.out).mono ?_
    rintro e_ w8_ ⟨rfl, hb⟩
    refine ⟨_, rfl, ?_⟩
    replace b3 := b3.keep hb
    replace b5 := b5.keep hb
    replace hB := keep_below hB hb
    replace hI := hI.below hb
    replace HT := Lib.hid (TabIs.below HT.out hb)
    replace h7 := h7.below hb
    replace b7 := b7.keep hb
    replace h9 := h9.below hb
    replace b9 := b9.keep hb
    clear hb
    refine pl_norm (a' := ?_) ?_ ?_
    rotate_left
    · first | (show Act.put _ (some 45) _ = _; simp only [Act.put, List.setIfInBounds_toArray, List.set_cons_zero, List.set_cons_succ, i64_w, i32_w]; rfl) | with_reducible rfl
    clear HC
    refine pl_val (N := some 6) (v := ?_) (a' := ?_) rfl (by rfl) ?_ ?_ ?_
    rotate_left
    · go_simp
      with_reducible rfl
    rotate_left
    · simp only [Act.put, List.setIfInBounds_toArray, List.set_cons_zero, List.set_cons_succ, i64_w, i32_w]
      rfl
    refine wpList_nil ?_
    go_wp2
    go_ret
    exact ⟨rfl, hB⟩
  subst h0
  obtain ⟨hm, h3, hw, h1, _⟩ := ask_ok HE.out
  rw [HS.out] at hm h3 hw h1
  have e0 : ((0 : Int) != 0) = false := by simp
  have hr : readyF t = 0 := by unfold readyF; rw [if_neg (by rw [hm]; simp), if_pos h3]
  have hE2 : askE t c o = 313 := by unfold askE; rw [if_neg (by rw [hm]; simp), if_pos h3]
  have hwt : wantsT t = wantT t := by unfold wantsT; rw [if_pos hr]
  have HC := ask_c (c := c) (o := o) hkt HT.out h7.In
  rw [hE2] at HC
  obtain ⟨u, hu⟩ : ∃ u, askS t c o = u := ⟨_, rfl⟩
  rw [hu] at HC
  have HX := Lib.hid (And.intro hw (And.intro h1 (And.intro hr hwt)))
  clear hm h3 hw h1 hr hE2 hwt hu
  go_upto_region 11 with fail
  refine wp_region_list ?_
  refine pl_val (N := some 47) (v := .agg (sv t p7)) (a' := ?_) rfl (by rfl) (load_row_run 33 _ rfl (w3_.heap.size) rfl 33 (sv t p7) _ (b7) Tryd.underlying33 rfl (by first | kernel_rfl | rfl)) ?_ ?_
  rotate_left
  · simp only [Act.put, List.setIfInBounds_toArray, List.set_cons_zero, List.set_cons_succ, i64_w, i32_w]
    rfl
  refine pl_val (N := some 48) (v := ?_) (a' := ?_) rfl (by rfl) ?_ ?_ ?_
  rotate_left
  · go_simp
    with_reducible rfl
  rotate_left
  · simp only [Act.put, List.setIfInBounds_toArray, List.set_cons_zero, List.set_cons_succ, i64_w, i32_w]
    rfl
  refine pl_val (N := some 49) (v := .agg (ov o)) (a' := ?_) rfl (by rfl) (load_row_run 27 _ rfl (w.heap.size + 1) rfl 27 (ov o) _ (b5) Tryd.underlying27 rfl (by first | kernel_rfl | rfl)) ?_ ?_
  rotate_left
  · simp only [Act.put, List.setIfInBounds_toArray, List.set_cons_zero, List.set_cons_succ, i64_w, i32_w]
    rfl
  refine pl_call Tryd.func10 (by kernel_rfl) rfl #[.agg (sv t p7), .int .i64 c, .agg (ov o)] (by rfl) rfl rfl (by (try simp only [List.map_toArray, List.map_cons, List.map_nil]); first | done | rfl) ?_
  refine (HC.out).mono ?_
  rintro e_ w8_ ⟨p11, rfl, h11, hb⟩
  refine ⟨_, rfl, ?_⟩
  replace b3 := b3.keep hb
  replace b5 := b5.keep hb
  replace hB := keep_below hB hb
  replace hI := hI.below hb
  replace HT := Lib.hid (TabIs.below HT.out hb)
  replace h7 := h7.below hb
  replace b7 := b7.keep hb
  replace h9 := h9.below hb
  replace b9 := b9.keep hb
  clear hb
  refine pl_norm (a' := ?_) ?_ ?_
  rotate_left
  · first | (show Act.put _ (some 50) _ = _; simp only [Act.put, List.setIfInBounds_toArray, List.set_cons_zero, List.set_cons_succ, i64_w, i32_w]; rfl) | with_reducible rfl
  clear HC h11
  refine pl_val (N := some 46) (v := ?_) (a' := ?_) rfl (by rfl) ?_ ?_ ?_
  rotate_left
  · go_simp
    with_reducible rfl
  rotate_left
  · simp only [Act.put, List.setIfInBounds_toArray, List.set_cons_zero, List.set_cons_succ, i64_w, i32_w]
    rfl
  refine pl_val (N := some 51) (v := ?_) (a' := ?_) rfl (by rfl) ?_ ?_ ?_
  rotate_left
  · go_simp
    with_reducible rfl
  rotate_left
  · simp only [Act.put, List.setIfInBounds_toArray, List.set_cons_zero, List.set_cons_succ, i64_w, i32_w]
    rfl
  refine pl_val (N := some 52) (v := ?_) (a' := ?_) rfl (by rfl) ?_ ?_ ?_
  rotate_left
  · go_simp
    with_reducible rfl
  rotate_left
  · simp only [Act.put, List.setIfInBounds_toArray, List.set_cons_zero, List.set_cons_succ, i64_w, i32_w]
    rfl
  refine pl_make (N := some 11) (v := .pointer (some ⟨(w8_).heap.size, 0, none⟩)) (W' := (w8_).alloc (.cells #[.int .i64 0, .int .u64 0, .bool false, .int .u64 0, .int .i64 0, .bool false, .int .u32 0, .int .i64 0, .int .i64 0, .int .i64 0, .int .i64 0, .int .i64 0, .int .i64 0, .int .i64 0, .int .i64 0, .int .i64 0, .int .i64 0, .slice none 0 0, .slice none 0 0, .slice none 0 0] 33)) (a' := ?_) rfl (by rfl) (by first | (go_simp; done) | (go_simp; rfl)) ?_ ?_
  rotate_left
  · simp only [Act.put, List.setIfInBounds_toArray, List.set_cons_zero, List.set_cons_succ, i64_w, i32_w]
    rfl
  have n_ := new_row w8_ #[.int .i64 0, .int .u64 0, .bool false, .int .u64 0, .int .i64 0, .bool false, .int .u32 0, .int .i64 0, .int .i64 0, .int .i64 0, .int .i64 0, .int .i64 0, .int .i64 0, .int .i64 0, .int .i64 0, .int .i64 0, .int .i64 0, .slice none 0 0, .slice none 0 0, .slice none 0 0] (sv u p11) 33
  have b_ : Blk (w8_.alloc (.cells #[.int .i64 0, .int .u64 0, .bool false, .int .u64 0, .int .i64 0, .bool false, .int .u32 0, .int .i64 0, .int .i64 0, .int .i64 0, .int .i64 0, .int .i64 0, .int .i64 0, .int .i64 0, .int .i64 0, .int .i64 0, .int .i64 0, .slice none 0 0, .slice none 0 0, .slice none 0 0] 33)) w8_.heap.size 33 #[.int .i64 0, .int .u64 0, .bool false, .int .u64 0, .int .i64 0, .bool false, .int .u32 0, .int .i64 0, .int .i64 0, .int .i64 0, .int .i64 0, .int .i64 0, .int .i64 0, .int .i64 0, .int .i64 0, .int .i64 0, .int .i64 0, .slice none 0 0, .slice none 0 0, .slice none 0 0] := Blk.new w8_ 33 _
  refine pl_skip (W' := _) rfl (by rfl) (store_row_run (g := w8_.heap.size) 33 _ _ rfl rfl (cells := (sv u p11)) rfl 33 (b_) (by first | kernel_rfl | rfl) rfl (sv_one _ _)) ?_
  clear b_
  obtain ⟨b11, hle⟩ := n_
  have Sb11 := Lib.hid (show w.heap.size ≤ w8_.heap.size from hB.size)
  replace b3 := b3.keep hle
  replace b5 := b5.keep hle
  replace hB := keep_below hB hle
  replace hI := hI.below hle
  replace HT := Lib.hid (TabIs.below HT.out hle)
  replace h7 := h7.below hle
  replace b7 := b7.keep hle
  replace h9 := h9.below hle
  replace b9 := b9.keep hle
  generalize (w8_.alloc (.cells #[.int .i64 0, .int .u64 0, .bool false, .int .u64 0, .int .i64 0, .bool false, .int .u32 0, .int .i64 0, .int .i64 0, .int .i64 0, .int .i64 0, .int .i64 0, .int .i64 0, .int .i64 0, .int .i64 0, .int .i64 0, .int .i64 0, .slice none 0 0, .slice none 0 0, .slice none 0 0] 33)).setRow w8_.heap.size (sv u p11) = w9_ at b3 b5 hB hI HT h7 b7 h9 b9 b11 hle ⊢
  clear hle
  refine pl_val (N := some 12) (v := ?_) (a' := ?_) rfl (by rfl) ?_ ?_ ?_
  rotate_left
  · go_simp
    with_reducible rfl
  rotate_left
  · simp only [Act.put, List.setIfInBounds_toArray, List.set_cons_zero, List.set_cons_succ, i64_w, i32_w]
    rfl
  refine wpList_nil ?_
  have HC := wants_c hkt HT.out h7.In
  obtain ⟨hw, h1, hr, hwt⟩ := HX.out
  rw [hr, hwt] at HC
  obtain ⟨⟨q1, q2, q3⟩, hq⟩ : ∃ q, wantT t = q := ⟨_, rfl⟩
  rw [hq] at HC hw
  have hw1 : 1 ≤ q1 := hw.1
  have hw2 : q1 ≤ 9 := hw.2
  clear hr hwt hq hw HX
  have H1 := Lib.hid h1
  clear h1
  go_upto_region 12 with fail
  refine wp_region_list ?_
  refine pl_val (N := some 54) (v := .agg (sv t p7)) (a' := ?_) rfl (by rfl) (load_row_run 33 _ rfl (w3_.heap.size) rfl 33 (sv t p7) _ (b7) Tryd.underlying33 rfl (by first | kernel_rfl | rfl)) ?_ ?_
  rotate_left
  · simp only [Act.put, List.setIfInBounds_toArray, List.set_cons_zero, List.set_cons_succ, i64_w, i32_w]
    rfl
  refine pl_call Tryd.func13 (by kernel_rfl) rfl #[.agg (sv t p7)] (by rfl) rfl rfl (by (try simp only [List.map_toArray, List.map_cons, List.map_nil]); first | done | rfl) ?_
  refine (HC.out).mono ?_
  rintro e_ w10_ ⟨rfl, hb⟩
  refine ⟨_, rfl, ?_⟩
  replace b3 := b3.keep hb
  replace b5 := b5.keep hb
  replace hB := keep_below hB hb
  replace hI := hI.below hb
  replace HT := Lib.hid (TabIs.below HT.out hb)
  replace h7 := h7.below hb
  replace b7 := b7.keep hb
  replace h9 := h9.below hb
  replace b9 := b9.keep hb
  replace b11 := b11.keep hb
  clear hb
  refine pl_norm (a' := ?_) ?_ ?_
  rotate_left
  · first | (show Act.put _ (some 55) _ = _; simp only [Act.put, List.setIfInBounds_toArray, List.set_cons_zero, List.set_cons_succ, i64_w, i32_w]; rfl) | with_reducible rfl
  clear HC
  refine pl_val (N := some 53) (v := ?_) (a' := ?_) rfl (by rfl) ?_ ?_ ?_
  rotate_left
  · go_simp
    with_reducible rfl
  rotate_left
  · simp only [Act.put, List.setIfInBounds_toArray, List.set_cons_zero, List.set_cons_succ, i64_w, i32_w]
    rfl
  refine pl_val (N := some 56) (v := ?_) (a' := ?_) rfl (by rfl) ?_ ?_ ?_
  rotate_left
  · go_simp
    with_reducible rfl
  rotate_left
  · simp only [Act.put, List.setIfInBounds_toArray, List.set_cons_zero, List.set_cons_succ, i64_w, i32_w]
    rfl
  refine pl_val (N := some 57) (v := ?_) (a' := ?_) rfl (by rfl) ?_ ?_ ?_
  rotate_left
  · go_simp
    with_reducible rfl
  rotate_left
  · simp only [Act.put, List.setIfInBounds_toArray, List.set_cons_zero, List.set_cons_succ, i64_w, i32_w]
    rfl
  refine pl_make (N := some 13) (v := .pointer (some ⟨(w10_).heap.size, 0, none⟩)) (W' := (w10_).alloc (.cells #[.int .i64 0, .int .u32 0, .int .i64 0] 41)) (a' := ?_) rfl (by rfl) (by first | (go_simp; done) | (go_simp; rfl)) ?_ ?_
  rotate_left
  · simp only [Act.put, List.setIfInBounds_toArray, List.set_cons_zero, List.set_cons_succ, i64_w, i32_w]
    rfl
  have n_ := new_row w10_ #[.int .i64 0, .int .u32 0, .int .i64 0] #[.int .i64 q1, .int .u32 q2, .int .i64 q3] 41
  have b_ : Blk (w10_.alloc (.cells #[.int .i64 0, .int .u32 0, .int .i64 0] 41)) w10_.heap.size 41 #[.int .i64 0, .int .u32 0, .int .i64 0] := Blk.new w10_ 41 _
  refine pl_skip (W' := _) rfl (by rfl) (store_row_run (g := w10_.heap.size) 41 _ _ rfl rfl (cells := #[.int .i64 q1, .int .u32 q2, .int .i64 q3]) rfl 41 (b_) (by first | kernel_rfl | rfl) rfl (by simp [Value.oneCell'])) ?_
  clear b_
  obtain ⟨b13, hle⟩ := n_
  have Sb13 := Lib.hid (show w.heap.size ≤ w10_.heap.size from hB.size)
  replace b3 := b3.keep hle
  replace b5 := b5.keep hle
  replace hB := keep_below hB hle
  replace hI := hI.below hle
  replace HT := Lib.hid (TabIs.below HT.out hle)
  replace h7 := h7.below hle
  replace b7 := b7.keep hle
  replace h9 := h9.below hle
  replace b9 := b9.keep hle
  replace b11 := b11.keep hle
  generalize (w10_.alloc (.cells #[.int .i64 0, .int .u32 0, .int .i64 0] 41)).setRow w10_.heap.size #[.int .i64 q1, .int .u32 q2, .int .i64 q3] = w11_ at b3 b5 hB hI HT h7 b7 h9 b9 b11 b13 hle ⊢
  clear hle
  refine pl_val (N := some 14) (v := ?_) (a' := ?_) rfl (by rfl) ?_ ?_ ?_
  rotate_left
  · go_simp
    with_reducible rfl
  rotate_left
  · simp only [Act.put, List.setIfInBounds_toArray, List.set_cons_zero, List.set_cons_succ, i64_w, i32_w]
    rfl
  refine wpList_nil ?_
  have k0 := b13.cell 0
  simp at k0
  have k1 := sc1 b7
  have k2 := sc1 b3
  rw [H1.out] at k1
  have d1 : decide (1 ≤ q1) = true := decide_eq_true hw1
  have d2 : decide (q1 ≤ 9) = true := decide_eq_true hw2
  have d1' : decide (q1 ≥ 1) = true := d1
  clear hw1 hw2
  go_wp2
  go_ret
  exact ⟨by simp, hB⟩
end Go.Proofs.YtiamkgoajkfofaaDoor.S
