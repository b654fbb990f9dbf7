/- What the row of this claim reaches. No condition. -/
import Derived.Test.YtiamkgoajkfofaaDoorYSAskP
import Derived.Test.YtiamkgoajkfofaaDoorYSRight
import Derived.Test.YtiamkgoajkfofaaDoorYSCop
set_option linter.unusedVariables false
set_option linter.unusedSimpArgs false
namespace Go.Proofs.YtiamkgoajkfofaaDoor.S
open Go.RowKit Go.Proofs.YtiamkgoajkfofaaDoorW.PrintWords Go.Proofs.YtiamkgoajkfofaaDoorW.PrintLast Go.Proofs.YtiamkgoajkfofaaDoorW.PrintMore
theorem ask_x {s t : S33} {p : Pt} {c er : Int} {o : S27} {W : World} (he : askE s c o = er) (hs : askS s c o = t) (hk : Okk s) (hT : TabIs W) (hi : In W s p) : Hid (Calls Tryd.prog 10 #[.agg (sv s p), .int .i64 c, .agg (ov o)] W fun e w' => ∃ p', e = .returned (.tuple #[.agg (sv t p'), .int .i64 er]) ∧ InR w' W.heap.size t p' ∧ Below W.heap.size W w') := by subst he hs; exact ask_c hk hT hi
theorem may_st {s : S33} (h : mayB s = true) (h3 : ¬ s.f0 = 3) : s.f0 = 1 ∨ s.f0 = 2 := by
  unfold mayB at h
  by_cases h1 : s.f0 = 1
  · exact Or.inl h1
  by_cases h2 : s.f0 = 2
  · exact Or.inr h2
  rw [if_neg h1, if_neg h2, if_neg h3] at h
  cases h
theorem refuse_st {s : S33} {c : Int} {o : S27} (h : s.f0 = 1 ∨ s.f0 = 2) : refuseF (if (s.f0 == 2) = true then 2 else 1) s.f2 c o = refuseF s.f0 s.f2 c o := by
  rcases h with h | h <;> rw [h] <;> rfl
theorem ask_okt {s : S33} {c er : Int} {o : S27} {t : S33} (hk : Okk s) (he : askE s c o = er) (ht : askS s c o = t) : Okk t := by
  rw [← ht]
  by_cases h0 : er = 0
  · exact (ask_ok (he.trans h0)).2.2.2.2 hk
  · rw [askS_refused (by rw [he]; exact h0)]; exact ⟨⟨by decide, by decide, by decide⟩, fun x h => by cases h⟩
def asq.T5 : Bool × List (List Nat × List Nat) := (true, [([], []), ([0], [0]), ([], []), ([], []), ([1, 2, 3, 1], [1, 2, 3]), ([4], [4]), ([5], [5]), ([5], [5]), ([], []), ([8, 6, 4, 0, 1, 2, 3, 4, 5, 6, 8], [6, 8]), ([7, 9, 0, 1, 2, 3, 4, 5, 6, 7, 8, 9], [7])])
def asq.B5 : List Nat := [0, 1, 0, 0, 15, 31, 63, 63, 0, 383, 1023]
theorem asq.tab5 : rtab .any (opsOf Tryd.f4 5) = asq.T5 := by kernel_rfl
theorem asq.bits5 : waitsOk asq.T5.2 asq.B5 = true := by kernel_rfl
def asr.T6 : Bool × List (List Nat × List Nat) := (true, [([], []), ([], []), ([1], [1]), ([0, 2, 2], [0, 2]), ([3], [3]), ([4, 3], [4]), ([5], [5]), ([5], [5]), ([6, 7, 5, 5], [5, 6, 7]), ([5], [5]), ([5], [5]), ([9, 10, 8, 5], [5, 9, 10]), ([8, 11, 5], [5, 8, 11]), ([5, 12], [5, 12])])
def asr.B6 : List Nat := [0, 0, 2, 7, 15, 31, 63, 63, 255, 63, 63, 2047, 4095, 8191]
theorem asr.tab6 : rtab .any (opsOf Tryd.f4 6) = asr.T6 := by kernel_rfl
theorem asr.bits6 : waitsOk asr.T6.2 asr.B6 = true := by kernel_rfl
set_option maxHeartbeats 8000000 in
set_option maxRecDepth 100000 in
theorem asks_any (s : S33) (p : Pt) (c : Int) (o : S27) (w : World) (hp : ∀ x ∈ s.f6.f2, 0 ≤ x) (hT : TabIs w) (hi : In w s p) :
    Calls Tryd.prog 4 #[.agg (sv s p), .int .i64 c, .agg (ov o)] w fun e w' => e = .returned (.bool true) ∧ Below w.heap.size w w' := by
  obtain ⟨W, hW⟩ : ∃ W, (w.alloc (.cells (sv s p) 33)).alloc (.cells (ov o) 27) = W := ⟨_, rfl⟩
  have b3 : Blk W w.heap.size 33 (sv s p) := by rw [← hW]; exact (Blk.new w 33 _).alloc _
  have b5 : Blk W (w.heap.size + 1) 27 (ov o) := by rw [← hW]; exact Blk.newAt (by simp)
  have hB : Below w.heap.size w W := by rw [← hW]; exact keep_below_alloc _ (keep_below_alloc _ (Below.refl _ _))
  have hI := hi.below hB
  have HT := Lib.hid (TabIs.below hT hB)
  have HW := Lib.hid hW
  have HP := Lib.hid hp
  clear hW hT hi hp
  go_enter Tryd.func4, Tryd.ntmps4
  go_upto_region 1 with fail
  rw [HW.out]
  clear HW
  have HC := wakes_c HT.out
  refine wp_region_list ?_
  refine pl_call Tryd.func8 (by kernel_rfl) rfl #[] (by rfl) rfl rfl (by (try simp only [List.map_toArray, List.map_cons, List.map_nil]); first | done | rfl) ?_
  refine (HC.out).mono ?_
  rintro e_ w1_ ⟨rfl, hb⟩
  refine ⟨_, rfl, ?_⟩
  replace b3 := b3.keep hb
  replace b5 := b5.keep hb
  replace hB := keep_below hB hb
  replace hI := hI.below hb
  replace HT := Lib.hid (TabIs.below HT.out hb)
  clear hb
  refine pl_norm (a' := ?_) ?_ ?_
  rotate_left
  · first | (show Act.put _ (some 11) _ = _; simp only [Act.put, List.setIfInBounds_toArray, List.set_cons_zero, List.set_cons_succ, i64_w, i32_w]; rfl) | with_reducible rfl
  clear HC
  refine pl_val (N := some 12) (v := ?_) (a' := ?_) rfl (by rfl) ?_ ?_ ?_
  rotate_left
  · go_simp
    with_reducible rfl
  rotate_left
  · simp only [Act.put, List.setIfInBounds_toArray, List.set_cons_zero, List.set_cons_succ, i64_w, i32_w]
    rfl
  refine wpList_nil ?_
  have HC := large_c hI
  go_upto_region 3 with fail
  refine wp_region_list ?_
  refine pl_val (N := some 13) (v := .agg (sv s p)) (a' := ?_) rfl (by rfl) (load_row_run 33 _ rfl (w.heap.size) rfl 33 (sv s p) _ (b3) Tryd.underlying33 rfl (by first | kernel_rfl | rfl)) ?_ ?_
  rotate_left
  · simp only [Act.put, List.setIfInBounds_toArray, List.set_cons_zero, List.set_cons_succ, i64_w, i32_w]
    rfl
  refine pl_call Tryd.func9 (by kernel_rfl) rfl #[.agg (sv s p)] (by rfl) rfl rfl (by (try simp only [List.map_toArray, List.map_cons, List.map_nil]); first | done | rfl) ?_
  refine (HC.out).mono ?_
  rintro e_ w2_ ⟨rfl, hb⟩
  refine ⟨_, rfl, ?_⟩
  replace b3 := b3.keep hb
  replace b5 := b5.keep hb
  replace hB := keep_below hB hb
  replace hI := hI.below hb
  replace HT := Lib.hid (TabIs.below HT.out hb)
  clear hb
  refine pl_norm (a' := ?_) ?_ ?_
  rotate_left
  · first | (show Act.put _ (some 14) _ = _; simp only [Act.put, List.setIfInBounds_toArray, List.set_cons_zero, List.set_cons_succ, i64_w, i32_w]; rfl) | with_reducible rfl
  clear HC
  refine wpList_nil ?_
  cases hl : largeB s
  case true =>
    clear hl
    go_wp2
    go_ret
    exact ⟨rfl, hB⟩
  have hk : Okk s := ⟨not_large hl, HP.out⟩
  clear hl HP
  obtain ⟨er, her⟩ : ∃ er, askE s c o = er := ⟨_, rfl⟩
  obtain ⟨t, ht⟩ : ∃ t, askS s c o = t := ⟨_, rfl⟩
  have hkt : Okk t := ask_okt hk her ht
  have HE := Lib.hid her
  have HS := Lib.hid ht
  clear her ht
  go_upto_region 5 with fail
  refine start_ (n := 11) (S := (fun w' => Below w2_.heap.size w2_ w')) (ds := [9]) #[false, false, false, false, false, false, false, false, false, false, false] (by kernel_rfl) rfl rfl (Below.drew (Below.refl _ _)) (fun hHeld => ?_)
  refine with_tabW asq.tab5 asq.bits5 (fun HT_ HW_ => ?_)
  refine take_ (i := 0) (N := some 16) (v := .agg (sv s p)) (a' := ?_) #[true, false, false, false, false, false, false, false, false, false, false] rfl rfl (take_ofW HT_.out HW_.out (by kernel_rfl)) (fun _ _ _ h => h) (Or.inl ⟨by rfl, ?_⟩) hHeld ?_ ?_
  · rintro w' s0
    exact load_row_run _ _ rfl (w.heap.size) rfl 33 (sv s p) _ (b3.keep s0) Tryd.underlying33 rfl (by first | kernel_rfl | rfl)
  rotate_left
  · simp only [Act.put, List.setIfInBounds_toArray, List.set_cons_zero, List.set_cons_succ]
    rfl
  refine pure_ (i := 2) (N := some 18) (v := ?_) (a' := ?_) #[true, false, true, false, false, false, false, false, false, false, false] rfl rfl (any_of HT_.out (by kernel_rfl)) (fun _ _ _ h => h) (Or.inl ⟨by rfl, ?_⟩) ?_ ?_
  rotate_left
  · intro w'
    go_simp
    with_reducible rfl
  rotate_left
  · simp only [Act.put, List.setIfInBounds_toArray, List.set_cons_zero, List.set_cons_succ, i64_w, i32_w]
    rfl
  refine take_ (i := 3) (N := some 19) (v := .agg (ov o)) (a' := ?_) #[true, false, true, true, false, false, false, false, false, false, false] rfl rfl (take_ofW HT_.out HW_.out (by kernel_rfl)) (fun _ _ _ h => h) (Or.inl ⟨by rfl, ?_⟩) hHeld ?_ ?_
  · rintro w' s0
    exact load_row_run _ _ rfl (w.heap.size + 1) rfl 27 (ov o) _ (b5.keep s0) Tryd.underlying27 rfl (by first | kernel_rfl | rfl)
  rotate_left
  · simp only [Act.put, List.setIfInBounds_toArray, List.set_cons_zero, List.set_cons_succ]
    rfl
  refine join_ (σ := (Pt) × (Pt) × (Nat)) 2 #[true, true, true, true, true, true, true, true, true, false, false] (fun s_ => [(17, (.agg (sv s s_.1))), (20, (.tuple #[.agg (sv t s_.2.1), .int .i64 er])), (15, (.tuple #[.agg (sv t s_.2.1), .int .i64 er])), (21, (.agg (sv t s_.2.1))), (22, (.int .i64 er)), (7, (.pointer (some ⟨s_.2.2, 0, none⟩)))]) (fun s_ w' => Below w2_.heap.size w2_ w' ∧ (InR w' w2_.heap.size s s_.1) ∧ (InR w' w2_.heap.size t s_.2.1) ∧ (Blk w' s_.2.2 33 #[.int .i64 0, .int .u64 0, .bool false, .int .u64 0, .int .i64 0, .bool false, .int .u32 0, .int .i64 0, .int .i64 0, .int .i64 0, .int .i64 0, .int .i64 0, .int .i64 0, .int .i64 0, .int .i64 0, .int .i64 0, .int .i64 0, .slice none 0 0, .slice none 0 0, .slice none 0 0]) ∧ (w2_.heap.size ≤ s_.2.2)) ?_ (fun hJ_1_4_8 => ?_)
  rotate_left
  refine join_ (σ := (Pt) × (Pt)) 3 #[true, true, true, true, true, true, true, true, false, false, false] (fun s_ => [(17, (.agg (sv s s_.1))), (20, (.tuple #[.agg (sv t s_.2), .int .i64 er])), (15, (.tuple #[.agg (sv t s_.2), .int .i64 er])), (21, (.agg (sv t s_.2))), (22, (.int .i64 er))]) (fun s_ w' => Below w2_.heap.size w2_ w' ∧ (InR w' w2_.heap.size s s_.1) ∧ (InR w' w2_.heap.size t s_.2)) ?_ (fun hJ_1_4 => ?_)
  rotate_left
  refine join_ (σ := (Pt) × (Nat)) 6 #[true, true, true, true, false, false, false, false, true, false, false] (fun s_ => [(17, (.agg (sv s s_.1))), (7, (.pointer (some ⟨s_.2, 0, none⟩)))]) (fun s_ w' => Below w2_.heap.size w2_ w' ∧ (InR w' w2_.heap.size s s_.1) ∧ (Blk w' s_.2 33 #[.int .i64 0, .int .u64 0, .bool false, .int .u64 0, .int .i64 0, .bool false, .int .u32 0, .int .i64 0, .int .i64 0, .int .i64 0, .int .i64 0, .int .i64 0, .int .i64 0, .int .i64 0, .int .i64 0, .int .i64 0, .int .i64 0, .slice none 0 0, .slice none 0 0, .slice none 0 0]) ∧ (w2_.heap.size ≤ s_.2)) ?_ (fun hJ_1_8 => ?_)
  rotate_left
  refine join_ (σ := (Pt)) 7 #[true, true, true, true, false, false, false, false, false, false, false] (fun s_ => [(17, (.agg (sv s s_)))]) (fun s_ w' => Below w2_.heap.size w2_ w' ∧ (InR w' w2_.heap.size s s_)) ?_ (fun hJ_1 => ?_)
  rotate_left
  refine join_ (σ := (Nat)) 7 #[true, false, true, true, false, false, false, false, true, false, false] (fun s_ => [(7, (.pointer (some ⟨s_, 0, none⟩)))]) (fun s_ w' => Below w2_.heap.size w2_ w' ∧ (Blk w' s_ 33 #[.int .i64 0, .int .u64 0, .bool false, .int .u64 0, .int .i64 0, .bool false, .int .u32 0, .int .i64 0, .int .i64 0, .int .i64 0, .int .i64 0, .int .i64 0, .int .i64 0, .int .i64 0, .int .i64 0, .int .i64 0, .int .i64 0, .slice none 0 0, .slice none 0 0, .slice none 0 0]) ∧ (w2_.heap.size ≤ s_)) ?_ (fun hJ_8 => ?_)
  rotate_left
  · have hB_ := hHeld
    refine two_ (i := 1) (j := 8) (Ni := some 17) (Nj := some 7) #[true, true, true, true, false, false, false, false, false, false, false] #[true, false, true, true, false, false, false, false, true, false, false] rfl rfl rfl rfl (two_of HT_.out (by kernel_rfl)) (by decide) (by decide) (fun K hK => ?_) (fun K hK => ?_)
    · refine goes_ Tryd.func14 (by kernel_rfl) rfl #[.agg (sv s p)] (by rfl) rfl rfl (by (try simp only [List.map_toArray, List.map_cons, List.map_nil]); first | done | rfl) ?_
      refine ((lcopied_c hk.1 (hI.below hB_)).out).mono ?_
      rintro e_ w1_ ⟨p1, rfl, h1, hb_⟩
      refine ⟨_, rfl, ?_⟩
      replace h1 := (h1.lower hB_.size).R
      replace hB_ := keep_below hB_ hb_
      clear hb_
      refine hK.out _ _ hB_ (fun hHeld => ?_)
      clear hK K
      exact norm_ (by simp only [putAll, Act.put, List.setIfInBounds_toArray, List.set_cons_zero, List.set_cons_succ] <;> rfl) (hJ_1 (p1) _ ⟨hB_, h1⟩)
    · refine box_step ?hg (N := 7) ?hd (cs := #[.int .i64 0, .int .u64 0, .bool false, .int .u64 0, .int .i64 0, .bool false, .int .u32 0, .int .i64 0, .int .i64 0, .int .i64 0, .int .i64 0, .int .i64 0, .int .i64 0, .int .i64 0, .int .i64 0, .int .i64 0, .int .i64 0, .slice none 0 0, .slice none 0 0, .slice none 0 0]) (t := 33) ?hr ?_; (case hd => rfl); (case hg => rfl); (case hr => first | (go_simp; done) | (go_simp; rfl))
      intro g7 hg_ w1_ b_g7 hb_
      have l_g7 : w2_.heap.size ≤ g7 := by rw [hg_]; exact hB_.size
      replace hB_ := keep_below hB_ hb_
      clear hb_ hg_
      refine hK.out _ _ hB_ (fun hHeld => ?_)
      clear hK K
      exact norm_ (by simp only [putAll, Act.put, List.setIfInBounds_toArray, List.set_cons_zero, List.set_cons_succ] <;> rfl) (hJ_8 (g7) _ ⟨hB_, b_g7, l_g7⟩)
  rotate_left
  · rintro ⟨p1, p7⟩ w_ ⟨hB_, h1, h7⟩
    have hHeld := hB_
    refine norm_ (a' := ?_) ?_ ?_
    rotate_left
    · simp only [putAll, Act.put, List.setIfInBounds_toArray, List.set_cons_zero, List.set_cons_succ]
      rfl
    refine one_ (i := 8) (N := some 7) #[true, true, true, true, true, true, true, true, true, false, false] rfl rfl (one_of HT_.out (by kernel_rfl)) (by decide) (fun K hK => ?_)
    · refine box_step ?hg (N := 7) ?hd (cs := #[.int .i64 0, .int .u64 0, .bool false, .int .u64 0, .int .i64 0, .bool false, .int .u32 0, .int .i64 0, .int .i64 0, .int .i64 0, .int .i64 0, .int .i64 0, .int .i64 0, .int .i64 0, .int .i64 0, .int .i64 0, .int .i64 0, .slice none 0 0, .slice none 0 0, .slice none 0 0]) (t := 33) ?hr ?_; (case hd => rfl); (case hg => rfl); (case hr => first | (go_simp; done) | (go_simp; rfl))
      intro g7 hg_ w1_ b_g7 hb_
      have l_g7 : w2_.heap.size ≤ g7 := by rw [hg_]; exact hB_.size
      replace h1 := h1.below hb_
      replace h7 := h7.below hb_
      replace hB_ := keep_below hB_ hb_
      clear hb_ hg_
      refine hK.out _ _ hB_ (fun hHeld => ?_)
      clear hK K
      exact norm_ (by simp only [putAll, Act.put, List.setIfInBounds_toArray, List.set_cons_zero, List.set_cons_succ] <;> rfl) (hJ_1_4_8 (p1, p7, g7) _ ⟨hB_, h1, h7, b_g7, l_g7⟩)
  · rintro ⟨p1, g7⟩ w_ ⟨hB_, h1, b_g7, l_g7⟩
    have hHeld := hB_
    refine norm_ (a' := ?_) ?_ ?_
    rotate_left
    · simp only [putAll, Act.put, List.setIfInBounds_toArray, List.set_cons_zero, List.set_cons_succ]
      rfl
    refine one_ (i := 4) (N := some 20) #[true, true, true, true, true, false, false, false, true, false, false] rfl rfl (one_of HT_.out (by kernel_rfl)) (by decide) (fun K hK => ?_)
    · refine goes_ Tryd.func10 (by kernel_rfl) rfl #[.agg (sv s p1), .int .i64 c, .agg (ov o)] (by rfl) rfl rfl (by (try simp only [List.map_toArray, List.map_cons, List.map_nil]); first | done | rfl) ?_
      refine ((ask_x HE.out HS.out hk (TabIs.below HT.out hB_) h1.In).out).mono ?_
      rintro e_ w1_ ⟨p7, rfl, h7, hb_⟩
      refine ⟨_, rfl, ?_⟩
      replace h7 := h7.lower hB_.size
      replace h1 := h1.below hb_
      replace b_g7 := b_g7.keep hb_
      replace hB_ := keep_below hB_ hb_
      clear hb_
      refine hK.out _ _ hB_ (fun hHeld => ?_)
      clear hK K
      refine norm_ (a' := ?_) ?_ ?_
      rotate_left
      · show Act.put _ (some 20) _ = _
        simp only [Act.put, List.setIfInBounds_toArray, List.set_cons_zero, List.set_cons_succ]
        rfl
      refine pure_ (i := 5) (N := some 15) (v := ?_) (a' := ?_) #[true, true, true, true, true, true, false, false, true, false, false] rfl rfl (any_of HT_.out (by kernel_rfl)) (fun _ _ _ h => h) (Or.inl ⟨by rfl, ?_⟩) ?_ ?_
      rotate_left
      · intro w'
        go_simp
        with_reducible rfl
      rotate_left
      · simp only [Act.put, List.setIfInBounds_toArray, List.set_cons_zero, List.set_cons_succ, i64_w, i32_w]
        rfl
      refine pure_ (i := 6) (N := some 21) (v := ?_) (a' := ?_) #[true, true, true, true, true, true, true, false, true, false, false] rfl rfl (any_of HT_.out (by kernel_rfl)) (fun _ _ _ h => h) (Or.inl ⟨by rfl, ?_⟩) ?_ ?_
      rotate_left
      · intro w'
        go_simp
        with_reducible rfl
      rotate_left
      · simp only [Act.put, List.setIfInBounds_toArray, List.set_cons_zero, List.set_cons_succ, i64_w, i32_w]
        rfl
      refine pure_ (i := 7) (N := some 22) (v := ?_) (a' := ?_) #[true, true, true, true, true, true, true, true, true, false, false] rfl rfl (any_of HT_.out (by kernel_rfl)) (fun _ _ _ h => h) (Or.inl ⟨by rfl, ?_⟩) ?_ ?_
      rotate_left
      · intro w'
        go_simp
        with_reducible rfl
      rotate_left
      · simp only [Act.put, List.setIfInBounds_toArray, List.set_cons_zero, List.set_cons_succ, i64_w, i32_w]
        rfl
      exact norm_ (by simp only [putAll, Act.put, List.setIfInBounds_toArray, List.set_cons_zero, List.set_cons_succ] <;> rfl) (hJ_1_4_8 (p1, p7, g7) _ ⟨hB_, h1, h7, b_g7, l_g7⟩)
  · rintro p1 w_ ⟨hB_, h1⟩
    have hHeld := hB_
    refine norm_ (a' := ?_) ?_ ?_
    rotate_left
    · simp only [putAll, Act.put, List.setIfInBounds_toArray, List.set_cons_zero, List.set_cons_succ]
      rfl
    refine two_ (i := 4) (j := 8) (Ni := some 20) (Nj := some 7) #[true, true, true, true, true, false, false, false, false, false, false] #[true, true, true, true, false, false, false, false, true, false, false] rfl rfl rfl rfl (two_of HT_.out (by kernel_rfl)) (by decide) (by decide) (fun K hK => ?_) (fun K hK => ?_)
    · refine goes_ Tryd.func10 (by kernel_rfl) rfl #[.agg (sv s p1), .int .i64 c, .agg (ov o)] (by rfl) rfl rfl (by (try simp only [List.map_toArray, List.map_cons, List.map_nil]); first | done | rfl) ?_
      refine ((ask_x HE.out HS.out hk (TabIs.below HT.out hB_) h1.In).out).mono ?_
      rintro e_ w1_ ⟨p7, rfl, h7, hb_⟩
      refine ⟨_, rfl, ?_⟩
      replace h7 := h7.lower hB_.size
      replace h1 := h1.below hb_
      replace hB_ := keep_below hB_ hb_
      clear hb_
      refine hK.out _ _ hB_ (fun hHeld => ?_)
      clear hK K
      refine norm_ (a' := ?_) ?_ ?_
      rotate_left
      · show Act.put _ (some 20) _ = _
        simp only [Act.put, List.setIfInBounds_toArray, List.set_cons_zero, List.set_cons_succ]
        rfl
      refine pure_ (i := 5) (N := some 15) (v := ?_) (a' := ?_) #[true, true, true, true, true, true, false, false, false, false, false] rfl rfl (any_of HT_.out (by kernel_rfl)) (fun _ _ _ h => h) (Or.inl ⟨by rfl, ?_⟩) ?_ ?_
      rotate_left
      · intro w'
        go_simp
        with_reducible rfl
      rotate_left
      · simp only [Act.put, List.setIfInBounds_toArray, List.set_cons_zero, List.set_cons_succ, i64_w, i32_w]
        rfl
      refine pure_ (i := 6) (N := some 21) (v := ?_) (a' := ?_) #[true, true, true, true, true, true, true, false, false, false, false] rfl rfl (any_of HT_.out (by kernel_rfl)) (fun _ _ _ h => h) (Or.inl ⟨by rfl, ?_⟩) ?_ ?_
      rotate_left
      · intro w'
        go_simp
        with_reducible rfl
      rotate_left
      · simp only [Act.put, List.setIfInBounds_toArray, List.set_cons_zero, List.set_cons_succ, i64_w, i32_w]
        rfl
      refine pure_ (i := 7) (N := some 22) (v := ?_) (a' := ?_) #[true, true, true, true, true, true, true, true, false, false, false] rfl rfl (any_of HT_.out (by kernel_rfl)) (fun _ _ _ h => h) (Or.inl ⟨by rfl, ?_⟩) ?_ ?_
      rotate_left
      · intro w'
        go_simp
        with_reducible rfl
      rotate_left
      · simp only [Act.put, List.setIfInBounds_toArray, List.set_cons_zero, List.set_cons_succ, i64_w, i32_w]
        rfl
      exact norm_ (by simp only [putAll, Act.put, List.setIfInBounds_toArray, List.set_cons_zero, List.set_cons_succ] <;> rfl) (hJ_1_4 (p1, p7) _ ⟨hB_, h1, h7⟩)
    · refine box_step ?hg (N := 7) ?hd (cs := #[.int .i64 0, .int .u64 0, .bool false, .int .u64 0, .int .i64 0, .bool false, .int .u32 0, .int .i64 0, .int .i64 0, .int .i64 0, .int .i64 0, .int .i64 0, .int .i64 0, .int .i64 0, .int .i64 0, .int .i64 0, .int .i64 0, .slice none 0 0, .slice none 0 0, .slice none 0 0]) (t := 33) ?hr ?_; (case hd => rfl); (case hg => rfl); (case hr => first | (go_simp; done) | (go_simp; rfl))
      intro g7 hg_ w1_ b_g7 hb_
      have l_g7 : w2_.heap.size ≤ g7 := by rw [hg_]; exact hB_.size
      replace h1 := h1.below hb_
      replace hB_ := keep_below hB_ hb_
      clear hb_ hg_
      refine hK.out _ _ hB_ (fun hHeld => ?_)
      clear hK K
      exact norm_ (by simp only [putAll, Act.put, List.setIfInBounds_toArray, List.set_cons_zero, List.set_cons_succ] <;> rfl) (hJ_1_8 (p1, g7) _ ⟨hB_, h1, b_g7, l_g7⟩)
  · rintro g7 w_ ⟨hB_, b_g7, l_g7⟩
    have hHeld := hB_
    refine norm_ (a' := ?_) ?_ ?_
    rotate_left
    · simp only [putAll, Act.put, List.setIfInBounds_toArray, List.set_cons_zero, List.set_cons_succ]
      rfl
    refine one_ (i := 1) (N := some 17) #[true, true, true, true, false, false, false, false, true, false, false] rfl rfl (one_of HT_.out (by kernel_rfl)) (by decide) (fun K hK => ?_)
    · refine goes_ Tryd.func14 (by kernel_rfl) rfl #[.agg (sv s p)] (by rfl) rfl rfl (by (try simp only [List.map_toArray, List.map_cons, List.map_nil]); first | done | rfl) ?_
      refine ((lcopied_c hk.1 (hI.below hB_)).out).mono ?_
      rintro e_ w1_ ⟨p1, rfl, h1, hb_⟩
      refine ⟨_, rfl, ?_⟩
      replace h1 := (h1.lower hB_.size).R
      replace b_g7 := b_g7.keep hb_
      replace hB_ := keep_below hB_ hb_
      clear hb_
      refine hK.out _ _ hB_ (fun hHeld => ?_)
      clear hK K
      exact norm_ (by simp only [putAll, Act.put, List.setIfInBounds_toArray, List.set_cons_zero, List.set_cons_succ] <;> rfl) (hJ_1_8 (p1, g7) _ ⟨hB_, h1, b_g7, l_g7⟩)
  rintro ⟨p1, p7, g7⟩ w_ ⟨hB_, h1, h7, b_g7, l_g7⟩
  have hHeld := hB_
  refine norm_ (a' := ?_) ?_ ?_
  rotate_left
  · simp only [putAll, Act.put, List.setIfInBounds_toArray, List.set_cons_zero, List.set_cons_succ]
    rfl
  refine last_ (i := 9) (N := none) #[true, true, true, true, true, true, true, true, true, true, false] rfl rfl (one_of HT_.out (by kernel_rfl)) (by decide) (fun K hK => ?_)
  refine skip_ (w1 := _) (by rfl) rfl (store_row_run (g := g7) 33 _ _ rfl rfl (cells := (sv t p7)) rfl 33 (b_g7) (by first | kernel_rfl | rfl) rfl (sv_one _ _)) ?_
  refine hK.out _ _ ?_
  clear hK K
  have b7 := Blk.row_ b_g7 (sv t p7)
  have hle := Below.row_ hB_ l_g7 (sv t p7)
  have h7' := h7.row33 b_g7 (sv t p7)
  clear h1 h7 b_g7 hB_ hHeld
  generalize w_.setRow g7 (sv t p7) = V0 at b7 hle h7' ⊢
  replace b3 := b3.keep hle
  replace b5 := b5.keep hle
  replace hB := keep_below hB hle
  replace hI := hI.below hle
  replace HT := Lib.hid (TabIs.below HT.out hle)
  clear hle l_g7
  have h7 := h7'
  clear h7'
  refine pure_ (i := 10) (N := some 8) (v := ?_) (a' := ?_) #[true, true, true, true, true, true, true, true, true, true, true] rfl rfl (any_of HT_.out (by kernel_rfl)) (fun _ _ _ h => h) (Or.inl ⟨by rfl, ?_⟩) ?_ ?_
  rotate_left
  · intro w'
    go_simp
    with_reducible rfl
  rotate_left
  · simp only [Act.put, List.setIfInBounds_toArray, List.set_cons_zero, List.set_cons_succ, i64_w, i32_w]
    rfl
  refine done_ (done_of HT_.out (by kernel_rfl)) ?_
  go_upto_region 6 with fail
  refine start_ (n := 14) (S := (fun w' => Below V0.heap.size V0 w')) (ds := []) #[false, false, false, false, false, false, false, false, false, false, false, false, false, false] (by kernel_rfl) rfl rfl (Below.drew (Below.refl _ _)) (fun hHeld => ?_)
  refine with_tabW asr.tab6 asr.bits6 (fun HT_ HW_ => ?_)
  refine take_ (i := 0) (N := some 23) (v := .agg (sv s p)) (a' := ?_) #[true, false, false, false, false, false, false, false, false, false, false, false, false, false] rfl rfl (take_ofW HT_.out HW_.out (by kernel_rfl)) (fun _ _ _ h => h) (Or.inl ⟨by rfl, ?_⟩) hHeld ?_ ?_
  · rintro w' s0
    exact load_row_run _ _ rfl (w.heap.size) rfl 33 (sv s p) _ (b3.keep s0) Tryd.underlying33 rfl (by first | kernel_rfl | rfl)
  rotate_left
  · simp only [Act.put, List.setIfInBounds_toArray, List.set_cons_zero, List.set_cons_succ]
    rfl
  refine take_ (i := 1) (N := some 24) (v := .agg (sv s p)) (a' := ?_) #[true, true, false, false, false, false, false, false, false, false, false, false, false, false] rfl rfl (take_ofW HT_.out HW_.out (by kernel_rfl)) (fun _ _ _ h => h) (Or.inl ⟨by rfl, ?_⟩) hHeld ?_ ?_
  · rintro w' s0
    exact load_row_run _ _ rfl (w.heap.size) rfl 33 (sv s p) _ (b3.keep s0) Tryd.underlying33 rfl (by first | kernel_rfl | rfl)
  rotate_left
  · simp only [Act.put, List.setIfInBounds_toArray, List.set_cons_zero, List.set_cons_succ]
    rfl
  have hX := hHeld
  refine one_ (i := 2) (N := some 25) #[true, true, true, false, false, false, false, false, false, false, false, false, false, false] rfl rfl (one_of HT_.out (by kernel_rfl)) (by decide) (fun K hK => ?_)
  refine goes_ Tryd.func14 (by kernel_rfl) rfl #[.agg (sv s p)] (by rfl) rfl rfl (by (try simp only [List.map_toArray, List.map_cons, List.map_nil]); first | done | rfl) ?_
  refine ((lcopied_c hk.1 (hI.below hX)).out).mono ?_
  rintro e_ w9 ⟨p1, rfl, h1, hb9⟩
  refine ⟨_, rfl, ?_⟩
  replace hX := keep_below hX hb9
  clear hb9
  refine hK.out _ _ hX (fun hHeld => ?_)
  clear hK K
  refine norm_ (a' := ?_) ?_ ?_
  rotate_left
  · first | (show Act.put _ (some 25) _ = _; simp only [Act.put, List.setIfInBounds_toArray, List.set_cons_zero, List.set_cons_succ, i64_w, i32_w]; rfl) | with_reducible rfl
  have HC := same_c hk.1 (hI.below hX) h1.In
  rw [sameB_refl] at HC
  refine one_ (i := 3) (N := some 26) #[true, true, true, true, false, false, false, false, false, false, false, false, false, false] rfl rfl (one_of HT_.out (by kernel_rfl)) (by decide) (fun K hK => ?_)
  refine goes_ Tryd.func11 (by kernel_rfl) rfl #[.agg (sv s p), .agg (sv s p1)] (by rfl) rfl rfl (by (try simp only [List.map_toArray, List.map_cons, List.map_nil]); first | done | rfl) ?_
  refine (HC.out).mono ?_
  rintro e_ w9 ⟨rfl, hb9⟩
  refine ⟨_, rfl, ?_⟩
  replace hX := keep_below hX hb9
  clear hb9
  refine hK.out _ _ hX (fun hHeld => ?_)
  clear hK K
  refine norm_ (a' := ?_) ?_ ?_
  rotate_left
  · first | (show Act.put _ (some 26) _ = _; simp only [Act.put, List.setIfInBounds_toArray, List.set_cons_zero, List.set_cons_succ, i64_w, i32_w]; rfl) | with_reducible rfl
  clear HC h1
  refine pure_ (i := 4) (N := some 27) (v := ?_) (a' := ?_) #[true, true, true, true, true, false, false, false, false, false, false, false, false, false] rfl rfl (any_of HT_.out (by kernel_rfl)) (fun _ _ _ h => h) (Or.inl ⟨by rfl, ?_⟩) ?_ ?_
  rotate_left
  · intro w'
    go_simp
    with_reducible rfl
  rotate_left
  · simp only [Act.put, List.setIfInBounds_toArray, List.set_cons_zero, List.set_cons_succ, i64_w, i32_w]
    rfl
  refine pure_ (i := 5) (N := some 28) (v := ?_) (a' := ?_) #[true, true, true, true, true, true, false, false, false, false, false, false, false, false] rfl rfl (any_of HT_.out (by kernel_rfl)) (fun _ _ _ h => h) (Or.inl ⟨by rfl, ?_⟩) ?_ ?_
  rotate_left
  · intro w'
    go_simp
    with_reducible rfl
  rotate_left
  · simp only [Act.put, List.setIfInBounds_toArray, List.set_cons_zero, List.set_cons_succ, i64_w, i32_w]
    rfl
  refine take_ (i := 6) (N := some 29) (v := .agg (sv s p)) (a' := ?_) #[true, true, true, true, true, true, true, false, false, false, false, false, false, false] rfl rfl (take_ofW HT_.out HW_.out (by kernel_rfl)) (fun _ _ _ h => h) (Or.inl ⟨by rfl, ?_⟩) hHeld ?_ ?_
  · rintro w' s0
    exact load_row_run _ _ rfl (w.heap.size) rfl 33 (sv s p) _ (b3.keep s0) Tryd.underlying33 rfl (by first | kernel_rfl | rfl)
  rotate_left
  · simp only [Act.put, List.setIfInBounds_toArray, List.set_cons_zero, List.set_cons_succ]
    rfl
  refine take_ (i := 7) (N := some 30) (v := .agg (sv t p7)) (a' := ?_) #[true, true, true, true, true, true, true, true, false, false, false, false, false, false] rfl rfl (take_ofW HT_.out HW_.out (by kernel_rfl)) (fun _ _ _ h => h) (Or.inl ⟨by rfl, ?_⟩) hHeld ?_ ?_
  · rintro w' s0
    exact load_row_run _ _ rfl (g7) rfl 33 (sv t p7) _ (b7.keep s0) Tryd.underlying33 rfl (by first | kernel_rfl | rfl)
  rotate_left
  · simp only [Act.put, List.setIfInBounds_toArray, List.set_cons_zero, List.set_cons_succ]
    rfl
  refine take_ (i := 9) (N := some 32) (v := .agg (sv s p)) (a' := ?_) #[true, true, true, true, true, true, true, true, false, true, false, false, false, false] rfl rfl (take_ofW HT_.out HW_.out (by kernel_rfl)) (fun _ _ _ h => h) (Or.inl ⟨by rfl, ?_⟩) hHeld ?_ ?_
  · rintro w' s0
    exact load_row_run _ _ rfl (w.heap.size) rfl 33 (sv s p) _ (b3.keep s0) Tryd.underlying33 rfl (by first | kernel_rfl | rfl)
  rotate_left
  · simp only [Act.put, List.setIfInBounds_toArray, List.set_cons_zero, List.set_cons_succ]
    rfl
  refine take_ (i := 10) (N := some 33) (v := .agg (sv t p7)) (a' := ?_) #[true, true, true, true, true, true, true, true, false, true, true, false, false, false] rfl rfl (take_ofW HT_.out HW_.out (by kernel_rfl)) (fun _ _ _ h => h) (Or.inl ⟨by rfl, ?_⟩) hHeld ?_ ?_
  · rintro w' s0
    exact load_row_run _ _ rfl (g7) rfl 33 (sv t p7) _ (b7.keep s0) Tryd.underlying33 rfl (by first | kernel_rfl | rfl)
  rotate_left
  · simp only [Act.put, List.setIfInBounds_toArray, List.set_cons_zero, List.set_cons_succ]
    rfl
  refine one_ (i := 8) (N := some 31) #[true, true, true, true, true, true, true, true, true, true, true, false, false, false] rfl rfl (one_of HT_.out (by kernel_rfl)) (by decide) (fun K hK => ?_)
  refine goes_ Tryd.func11 (by kernel_rfl) rfl #[.agg (sv s p), .agg (sv t p7)] (by rfl) rfl rfl (by (try simp only [List.map_toArray, List.map_cons, List.map_nil]); first | done | rfl) ?_
  refine ((same_c hk.1 (hI.below hX) (h7.below hX).In).out).mono ?_
  rintro e_ w9 ⟨rfl, hb9⟩
  refine ⟨_, rfl, ?_⟩
  replace hX := keep_below hX hb9
  clear hb9
  refine hK.out _ _ hX (fun hHeld => ?_)
  clear hK K
  refine norm_ (a' := ?_) ?_ ?_
  rotate_left
  · first | (show Act.put _ (some 31) _ = _; simp only [Act.put, List.setIfInBounds_toArray, List.set_cons_zero, List.set_cons_succ, i64_w, i32_w]; rfl) | with_reducible rfl
  refine one_ (i := 11) (N := some 34) #[true, true, true, true, true, true, true, true, true, true, true, true, false, false] rfl rfl (one_of HT_.out (by kernel_rfl)) (by decide) (fun K hK => ?_)
  refine goes_ Tryd.func15 (by kernel_rfl) rfl #[.agg (sv s p), .agg (sv t p7)] (by rfl) rfl rfl (by (try simp only [List.map_toArray, List.map_cons, List.map_nil]); first | done | rfl) ?_
  refine ((rsame_c hk.1 (hI.below hX) (h7.below hX).In).out).mono ?_
  rintro e_ w9 ⟨rfl, hb9⟩
  refine ⟨_, rfl, ?_⟩
  replace hX := keep_below hX hb9
  clear hb9
  refine hK.out _ _ hX (fun hHeld => ?_)
  clear hK K
  refine norm_ (a' := ?_) ?_ ?_
  rotate_left
  · first | (show Act.put _ (some 34) _ = _; simp only [Act.put, List.setIfInBounds_toArray, List.set_cons_zero, List.set_cons_succ, i64_w, i32_w]; rfl) | with_reducible rfl
  have dd : (sameB s t != sameB s t) = false := by simp
  refine pure_ (i := 12) (N := some 35) (v := ?_) (a' := ?_) #[true, true, true, true, true, true, true, true, true, true, true, true, true, false] rfl rfl (any_of HT_.out (by kernel_rfl)) (fun _ _ _ h => h) (Or.inl ⟨by rfl, ?_⟩) ?_ ?_
  rotate_left
  · intro w'
    go_simp
    with_reducible rfl
  rotate_left
  · simp only [Act.put, List.setIfInBounds_toArray, List.set_cons_zero, List.set_cons_succ, i64_w, i32_w]
    rfl
  refine pure_ (i := 13) (N := some 36) (v := ?_) (a' := ?_) #[true, true, true, true, true, true, true, true, true, true, true, true, true, true] rfl rfl (any_of HT_.out (by kernel_rfl)) (fun _ _ _ h => h) (Or.inl ⟨by rfl, ?_⟩) ?_ ?_
  rotate_left
  · intro w'
    go_simp
    with_reducible rfl
  rotate_left
  · simp only [Act.put, List.setIfInBounds_toArray, List.set_cons_zero, List.set_cons_succ, i64_w, i32_w]
    rfl
  refine done_ (done_of HT_.out (by kernel_rfl)) ?_
  clear dd
  replace b3 := b3.keep hX
  replace b5 := b5.keep hX
  replace hB := keep_below hB hX
  replace hI := hI.below hX
  replace HT := Lib.hid (TabIs.below HT.out hX)
  replace b7 := b7.keep hX
  replace h7 := h7.below hX
  clear hX hHeld
  have HC := right_c hk hI
  go_upto_region 8 with fail
  refine wp_region_list ?_
  refine pl_val (N := some 37) (v := .agg (sv s p)) (a' := ?_) rfl (by rfl) (load_row_run 33 _ rfl (w.heap.size) rfl 33 (sv s p) _ (b3) Tryd.underlying33 rfl (by first | kernel_rfl | rfl)) ?_ ?_
  rotate_left
  · simp only [Act.put, List.setIfInBounds_toArray, List.set_cons_zero, List.set_cons_succ, i64_w, i32_w]
    rfl
  refine pl_call Tryd.func16 (by kernel_rfl) rfl #[.agg (sv s p)] (by rfl) rfl rfl (by (try simp only [List.map_toArray, List.map_cons, List.map_nil]); first | done | rfl) ?_
  refine (HC.out).mono ?_
  rintro e_ w3_ ⟨rfl, hb⟩
  refine ⟨_, rfl, ?_⟩
  replace b3 := b3.keep hb
  replace b5 := b5.keep hb
  replace hB := keep_below hB hb
  replace hI := hI.below hb
  replace HT := Lib.hid (TabIs.below HT.out hb)
  replace b7 := b7.keep hb
  replace h7 := h7.below hb
  clear hb
  refine pl_norm (a' := ?_) ?_ ?_
  rotate_left
  · first | (show Act.put _ (some 38) _ = _; simp only [Act.put, List.setIfInBounds_toArray, List.set_cons_zero, List.set_cons_succ, i64_w, i32_w]; rfl) | with_reducible rfl
  clear HC
  cases hm : mayB s
  case false =>
    have he : er = 310 := HE.out.symm.trans (by unfold askE; rw [if_pos hm])
    have hz : sameB t z33 = true := by rw [← HS.out, show askS s c o = z33 by unfold askS; rw [if_pos hm]]; exact sameB_refl _
    have hck : checkF s = 310 := by unfold checkF; rw [hm]; rfl
    have de : (er == 310) = true := beq_iff_eq.mpr he
    have HC := none_c hkt.1 h7.In
    rw [hz] at HC
    clear hm he hz
    refine pl_val (N := some 39) (v := ?_) (a' := ?_) rfl (by rfl) ?_ ?_ ?_
    rotate_left
    · go_simp
      with_reducible rfl
    rotate_left
    · simp only [Act.put, List.setIfInBounds_toArray, List.set_cons_zero, List.set_cons_succ, i64_w, i32_w]
      rfl
    refine wpList_nil ?_
    go_upto_region 9 with fail
    refine wp_region_list ?_
    refine pl_val (N := some 40) (v := .agg (sv t p7)) (a' := ?_) rfl (by rfl) (load_row_run 33 _ rfl (g7) rfl 33 (sv t p7) _ (b7) Tryd.underlying33 rfl (by first | kernel_rfl | rfl)) ?_ ?_
    rotate_left
    · simp only [Act.put, List.setIfInBounds_toArray, List.set_cons_zero, List.set_cons_succ, i64_w, i32_w]
      rfl
    refine pl_call Tryd.func12 (by kernel_rfl) rfl #[.agg (sv t p7)] (by rfl) rfl rfl (by (try simp only [List.map_toArray, List.map_cons, List.map_nil]); first | done | rfl) ?_
    refine (HC.out).mono ?_
    rintro e_ w4_ ⟨rfl, hb⟩
    refine ⟨_, rfl, ?_⟩
    replace b3 := b3.keep hb
    replace b5 := b5.keep hb
    replace hB := keep_below hB hb
    replace hI := hI.below hb
    replace HT := Lib.hid (TabIs.below HT.out hb)
    replace b7 := b7.keep hb
    replace h7 := h7.below hb
    clear hb
    refine pl_norm (a' := ?_) ?_ ?_
    rotate_left
    · first | (show Act.put _ (some 41) _ = _; simp only [Act.put, List.setIfInBounds_toArray, List.set_cons_zero, List.set_cons_succ, i64_w, i32_w]; rfl) | with_reducible rfl
    clear HC
    refine pl_val (N := some 42) (v := ?_) (a' := ?_) rfl (by rfl) ?_ ?_ ?_
    rotate_left
    · go_simp
      with_reducible rfl
    rotate_left
    · simp only [Act.put, List.setIfInBounds_toArray, List.set_cons_zero, List.set_cons_succ, i64_w, i32_w]
      rfl
    refine pl_val (N := some 43) (v := ?_) (a' := ?_) rfl (by rfl) ?_ ?_ ?_
    rotate_left
    · go_simp
      with_reducible rfl
    rotate_left
    · simp only [Act.put, List.setIfInBounds_toArray, List.set_cons_zero, List.set_cons_succ, i64_w, i32_w]
      rfl
    refine pl_val (N := some 44) (v := ?_) (a' := ?_) rfl (by rfl) ?_ ?_ ?_
    rotate_left
    · go_simp
      with_reducible rfl
    rotate_left
    · simp only [Act.put, List.setIfInBounds_toArray, List.set_cons_zero, List.set_cons_succ, i64_w, i32_w]
      rfl
    refine pl_val (N := some 45) (v := ?_) (a' := ?_) rfl (by rfl) ?_ ?_ ?_
    rotate_left
    · go_simp
      with_reducible rfl
    rotate_left
    · simp only [Act.put, List.setIfInBounds_toArray, List.set_cons_zero, List.set_cons_succ, i64_w, i32_w]
      rfl
    refine pl_val (N := some 46) (v := ?_) (a' := ?_) rfl (by rfl) ?_ ?_ ?_
    rotate_left
    · go_simp
      with_reducible rfl
    rotate_left
    · simp only [Act.put, List.setIfInBounds_toArray, List.set_cons_zero, List.set_cons_succ, i64_w, i32_w]
      rfl
    refine pl_val (N := some 47) (v := .agg (sv s p)) (a' := ?_) rfl (by rfl) (load_row_run 33 _ rfl (w.heap.size) rfl 33 (sv s p) _ (b3) Tryd.underlying33 rfl (by first | kernel_rfl | rfl)) ?_ ?_
    rotate_left
    · simp only [Act.put, List.setIfInBounds_toArray, List.set_cons_zero, List.set_cons_succ, i64_w, i32_w]
      rfl
    refine pl_call Tryd.func14 (by kernel_rfl) rfl #[.agg (sv s p)] (by rfl) rfl rfl (by (try simp only [List.map_toArray, List.map_cons, List.map_nil]); first | done | rfl) ?_
    refine ((lcopied_c hk.1 hI).out).mono ?_
    rintro e_ w5_ ⟨p1, rfl, h1, hb⟩
    refine ⟨_, rfl, ?_⟩
    replace b3 := b3.keep hb
    replace b5 := b5.keep hb
    replace hB := keep_below hB hb
    replace hI := hI.below hb
    replace HT := Lib.hid (TabIs.below HT.out hb)
    replace b7 := b7.keep hb
    replace h7 := h7.below hb
    clear hb
    refine pl_norm (a' := ?_) ?_ ?_
    rotate_left
    · first | (show Act.put _ (some 48) _ = _; simp only [Act.put, List.setIfInBounds_toArray, List.set_cons_zero, List.set_cons_succ, i64_w, i32_w]; rfl) | with_reducible rfl
    have HC := check_c hk HT.out h1.In
    rw [hck] at HC
    refine pl_call Tryd.func17 (by kernel_rfl) rfl #[.agg (sv s p1)] (by rfl) rfl rfl (by (try simp only [List.map_toArray, List.map_cons, List.map_nil]); first | done | rfl) ?_
    refine (HC.out).mono ?_
    rintro e_ w6_ ⟨rfl, hb⟩
    refine ⟨_, rfl, ?_⟩
    replace b3 := b3.keep hb
    replace b5 := b5.keep hb
    replace hB := keep_below hB hb
    replace hI := hI.below hb
    replace HT := Lib.hid (TabIs.below HT.out hb)
    replace b7 := b7.keep hb
    replace h7 := h7.below hb
    clear hb
    refine pl_norm (a' := ?_) ?_ ?_
    rotate_left
    · first | (show Act.put _ (some 49) _ = _; simp only [Act.put, List.setIfInBounds_toArray, List.set_cons_zero, List.set_cons_succ, i64_w, i32_w]; rfl) | with_reducible rfl
    refine pl_val (N := some 50) (v := ?_) (a' := ?_) rfl (by rfl) ?_ ?_ ?_
    rotate_left
    · go_simp
      with_reducible rfl
    rotate_left
    · simp only [Act.put, List.setIfInBounds_toArray, List.set_cons_zero, List.set_cons_succ, i64_w, i32_w]
      rfl
    refine pl_val (N := some 51) (v := ?_) (a' := ?_) rfl (by rfl) ?_ ?_ ?_
    rotate_left
    · go_simp
      with_reducible rfl
    rotate_left
    · simp only [Act.put, List.setIfInBounds_toArray, List.set_cons_zero, List.set_cons_succ, i64_w, i32_w]
      rfl
    refine pl_val (N := some 6) (v := ?_) (a' := ?_) rfl (by rfl) ?_ ?_ ?_
    rotate_left
    · go_simp
      with_reducible rfl
    rotate_left
    · simp only [Act.put, List.setIfInBounds_toArray, List.set_cons_zero, List.set_cons_succ, i64_w, i32_w]
      rfl
    refine wpList_nil ?_
    go_wp2
    go_ret
    exact ⟨rfl, hB⟩
  have HM := Lib.hid hm
  clear hm
  refine pl_val (N := some 39) (v := ?_) (a' := ?_) rfl (by rfl) ?_ ?_ ?_
  rotate_left
  · go_simp
    with_reducible rfl
  rotate_left
  · simp only [Act.put, List.setIfInBounds_toArray, List.set_cons_zero, List.set_cons_succ, i64_w, i32_w]
    rfl
  refine wpList_nil ?_
  go_upto_region 10 with fail
  refine wp_region_list ?_
  refine pl_val (N := some 52) (v := .agg (sv s p)) (a' := ?_) rfl (by rfl) (load_row_run 33 _ rfl (w.heap.size) rfl 33 (sv s p) _ (b3) Tryd.underlying33 rfl (by first | kernel_rfl | rfl)) ?_ ?_
  rotate_left
  · simp only [Act.put, List.setIfInBounds_toArray, List.set_cons_zero, List.set_cons_succ, i64_w, i32_w]
    rfl
  refine pl_call Tryd.func14 (by kernel_rfl) rfl #[.agg (sv s p)] (by rfl) rfl rfl (by (try simp only [List.map_toArray, List.map_cons, List.map_nil]); first | done | rfl) ?_
  refine ((lcopied_c hk.1 hI).out).mono ?_
  rintro e_ w4_ ⟨p1, rfl, h1, hb⟩
  refine ⟨_, rfl, ?_⟩
  replace b3 := b3.keep hb
  replace b5 := b5.keep hb
  replace hB := keep_below hB hb
  replace hI := hI.below hb
  replace HT := Lib.hid (TabIs.below HT.out hb)
  replace b7 := b7.keep hb
  replace h7 := h7.below hb
  clear hb
  refine pl_norm (a' := ?_) ?_ ?_
  rotate_left
  · first | (show Act.put _ (some 53) _ = _; simp only [Act.put, List.setIfInBounds_toArray, List.set_cons_zero, List.set_cons_succ, i64_w, i32_w]; rfl) | with_reducible rfl
  have HC := check_c hk HT.out h1.In
  rw [show checkF s = 0 by unfold checkF; rw [if_pos HM.out]] at HC
  refine pl_call Tryd.func17 (by kernel_rfl) rfl #[.agg (sv s p1)] (by rfl) rfl rfl (by (try simp only [List.map_toArray, List.map_cons, List.map_nil]); first | done | rfl) ?_
  refine (HC.out).mono ?_
  rintro e_ w5_ ⟨rfl, hb⟩
  refine ⟨_, rfl, ?_⟩
  replace b3 := b3.keep hb
  replace b5 := b5.keep hb
  replace hB := keep_below hB hb
  replace hI := hI.below hb
  replace HT := Lib.hid (TabIs.below HT.out hb)
  replace b7 := b7.keep hb
  replace h7 := h7.below hb
  clear hb
  refine pl_norm (a' := ?_) ?_ ?_
  rotate_left
  · first | (show Act.put _ (some 54) _ = _; simp only [Act.put, List.setIfInBounds_toArray, List.set_cons_zero, List.set_cons_succ, i64_w, i32_w]; rfl) | with_reducible rfl
  clear HC h1
  refine pl_val (N := some 55) (v := ?_) (a' := ?_) rfl (by rfl) ?_ ?_ ?_
  rotate_left
  · go_simp
    with_reducible rfl
  rotate_left
  · simp only [Act.put, List.setIfInBounds_toArray, List.set_cons_zero, List.set_cons_succ, i64_w, i32_w]
    rfl
  refine wpList_nil ?_
  have c0 := sc0 b3
  by_cases h3 : s.f0 = 3
  case pos =>
    have e3 : (s.f0 == 3) = true := beq_iff_eq.mpr h3
    have he : er = 313 := HE.out.symm.trans (by unfold askE; rw [if_neg (by rw [HM.out]; simp), if_pos h3])
    have hz : sameB t z33 = true := by rw [← HS.out, show askS s c o = z33 by unfold askS; rw [if_neg (by rw [HM.out]; simp), if_pos h3]]; exact sameB_refl _
    have de : (er == 313) = true := beq_iff_eq.mpr he
    have HC := none_c hkt.1 h7.In
    rw [hz] at HC
    clear h3 he hz
    go_upto_region 13 with fail
    refine wp_region_list ?_
    refine pl_val (N := some 59) (v := .agg (sv t p7)) (a' := ?_) rfl (by rfl) (load_row_run 33 _ rfl (g7) rfl 33 (sv t p7) _ (b7) Tryd.underlying33 rfl (by first | kernel_rfl | rfl)) ?_ ?_
    rotate_left
    · simp only [Act.put, List.setIfInBounds_toArray, List.set_cons_zero, List.set_cons_succ, i64_w, i32_w]
      rfl
    refine pl_call Tryd.func12 (by kernel_rfl) rfl #[.agg (sv t p7)] (by rfl) rfl rfl (by (try simp only [List.map_toArray, List.map_cons, List.map_nil]); first | done | rfl) ?_
    refine (HC.out).mono ?_
    rintro e_ w6_ ⟨rfl, hb⟩
    refine ⟨_, rfl, ?_⟩
    replace b3 := b3.keep hb
    replace b5 := b5.keep hb
    replace hB := keep_below hB hb
    replace hI := hI.below hb
    replace HT := Lib.hid (TabIs.below HT.out hb)
    replace b7 := b7.keep hb
    replace h7 := h7.below hb
    clear hb
    refine pl_norm (a' := ?_) ?_ ?_
    rotate_left
    · first | (show Act.put _ (some 60) _ = _; simp only [Act.put, List.setIfInBounds_toArray, List.set_cons_zero, List.set_cons_succ, i64_w, i32_w]; rfl) | with_reducible rfl
    clear HC
    refine pl_val (N := some 61) (v := ?_) (a' := ?_) rfl (by rfl) ?_ ?_ ?_
    rotate_left
    · go_simp
      with_reducible rfl
    rotate_left
    · simp only [Act.put, List.setIfInBounds_toArray, List.set_cons_zero, List.set_cons_succ, i64_w, i32_w]
      rfl
    refine pl_val (N := some 62) (v := ?_) (a' := ?_) rfl (by rfl) ?_ ?_ ?_
    rotate_left
    · go_simp
      with_reducible rfl
    rotate_left
    · simp only [Act.put, List.setIfInBounds_toArray, List.set_cons_zero, List.set_cons_succ, i64_w, i32_w]
      rfl
    refine pl_val (N := some 63) (v := ?_) (a' := ?_) rfl (by rfl) ?_ ?_ ?_
    rotate_left
    · go_simp
      with_reducible rfl
    rotate_left
    · simp only [Act.put, List.setIfInBounds_toArray, List.set_cons_zero, List.set_cons_succ, i64_w, i32_w]
      rfl
    refine pl_val (N := some 64) (v := ?_) (a' := ?_) rfl (by rfl) ?_ ?_ ?_
    rotate_left
    · go_simp
      with_reducible rfl
    rotate_left
    · simp only [Act.put, List.setIfInBounds_toArray, List.set_cons_zero, List.set_cons_succ, i64_w, i32_w]
      rfl
    refine pl_val (N := some 6) (v := ?_) (a' := ?_) rfl (by rfl) ?_ ?_ ?_
    rotate_left
    · go_simp
      with_reducible rfl
    rotate_left
    · simp only [Act.put, List.setIfInBounds_toArray, List.set_cons_zero, List.set_cons_succ, i64_w, i32_w]
      rfl
    refine wpList_nil ?_
    go_wp2
    go_ret
    exact ⟨rfl, hB⟩
  have e3 : (s.f0 == 3) = false := beq_eq_false_iff_ne.mpr h3
  have HR := rrefuse_c (s.f0 == 2) s.f2 c o w5_
  rw [refuse_st (may_st HM.out h3), show refuseF s.f0 s.f2 c o = er from (by rw [← HE.out]; unfold askE; rw [if_neg (by rw [HM.out]; simp), if_neg h3])] at HR
  have H3 := Lib.hid h3
  clear h3
  have c2 := sc2 b3
  go_upto_region 14 with fail
  refine wp_region_list ?_
  refine pl_val (N := some 65) (v := ?_) (a' := ?_) rfl (by rfl) ?_ ?_ ?_
  rotate_left
  · go_simp
    with_reducible rfl
  rotate_left
  · simp only [Act.put, List.setIfInBounds_toArray, List.set_cons_zero, List.set_cons_succ, i64_w, i32_w]
    rfl
  refine pl_val (N := some 66) (v := ?_) (a' := ?_) rfl (by rfl) ?_ ?_ ?_
  rotate_left
  · go_simp
    with_reducible rfl
  rotate_left
  · simp only [Act.put, List.setIfInBounds_toArray, List.set_cons_zero, List.set_cons_succ, i64_w, i32_w]
    rfl
  refine pl_val (N := some 67) (v := ?_) (a' := ?_) rfl (by rfl) ?_ ?_ ?_
  rotate_left
  · go_simp
    with_reducible rfl
  rotate_left
  · simp only [Act.put, List.setIfInBounds_toArray, List.set_cons_zero, List.set_cons_succ, i64_w, i32_w]
    rfl
  refine pl_val (N := some 68) (v := ?_) (a' := ?_) rfl (by rfl) ?_ ?_ ?_
  rotate_left
  · go_simp
    with_reducible rfl
  rotate_left
  · simp only [Act.put, List.setIfInBounds_toArray, List.set_cons_zero, List.set_cons_succ, i64_w, i32_w]
    rfl
  refine pl_val (N := some 69) (v := ?_) (a' := ?_) rfl (by rfl) ?_ ?_ ?_
  rotate_left
  · go_simp
    with_reducible rfl
  rotate_left
  · simp only [Act.put, List.setIfInBounds_toArray, List.set_cons_zero, List.set_cons_succ, i64_w, i32_w]
    rfl
  refine pl_val (N := some 70) (v := ?_) (a' := ?_) rfl (by rfl) ?_ ?_ ?_
  rotate_left
  · go_simp
    with_reducible rfl
  rotate_left
  · simp only [Act.put, List.setIfInBounds_toArray, List.set_cons_zero, List.set_cons_succ, i64_w, i32_w]
    rfl
  refine pl_val (N := some 71) (v := .agg (ov o)) (a' := ?_) rfl (by rfl) (load_row_run 27 _ rfl (w.heap.size + 1) rfl 27 (ov o) _ (b5) Tryd.underlying27 rfl (by first | kernel_rfl | rfl)) ?_ ?_
  rotate_left
  · simp only [Act.put, List.setIfInBounds_toArray, List.set_cons_zero, List.set_cons_succ, i64_w, i32_w]
    rfl
  refine pl_call Tryd.func18 (by kernel_rfl) rfl #[.bool (s.f0 == 2), .bool s.f2, .int .i64 c, .agg (ov o)] (by rfl) rfl rfl (by (try simp only [List.map_toArray, List.map_cons, List.map_nil]); first | done | rfl) ?_
  refine (HR.out).mono ?_
  rintro e_ w6_ ⟨rfl, hb⟩
  refine ⟨_, rfl, ?_⟩
  replace b3 := b3.keep hb
  replace b5 := b5.keep hb
  replace hB := keep_below hB hb
  replace hI := hI.below hb
  replace HT := Lib.hid (TabIs.below HT.out hb)
  replace b7 := b7.keep hb
  replace h7 := h7.below hb
  clear hb
  refine pl_norm (a' := ?_) ?_ ?_
  rotate_left
  · first | (show Act.put _ (some 72) _ = _; simp only [Act.put, List.setIfInBounds_toArray, List.set_cons_zero, List.set_cons_succ, i64_w, i32_w]; rfl) | with_reducible rfl
  clear HR c0 c2
  refine pl_val (N := some 9) (v := ?_) (a' := ?_) rfl (by rfl) ?_ ?_ ?_
  rotate_left
  · go_simp
    with_reducible rfl
  rotate_left
  · simp only [Act.put, List.setIfInBounds_toArray, List.set_cons_zero, List.set_cons_succ, i64_w, i32_w]
    rfl
  refine wpList_nil ?_
  by_cases h0 : er = 0
  case neg =>
    have e0 : (er != 0) = true := bne_iff_ne.mpr h0
    have hz : sameB t z33 = true := by rw [← HS.out, askS_refused (by rw [HE.out]; exact h0)]; exact sameB_refl _
    have de : (er == er) = true := by simp
    have HC := none_c hkt.1 h7.In
    rw [hz] at HC
    clear h0 hz
    go_upto_region 16 with fail
    refine wp_region_list ?_
    refine pl_val (N := some 75) (v := .agg (sv t p7)) (a' := ?_) rfl (by rfl) (load_row_run 33 _ rfl (g7) rfl 33 (sv t p7) _ (b7) Tryd.underlying33 rfl (by first | kernel_rfl | rfl)) ?_ ?_
    rotate_left
    · simp only [Act.put, List.setIfInBounds_toArray, List.set_cons_zero, List.set_cons_succ, i64_w, i32_w]
      rfl
    refine pl_call Tryd.func12 (by kernel_rfl) rfl #[.agg (sv t p7)] (by rfl) rfl rfl (by (try simp only [List.map_toArray, List.map_cons, List.map_nil]); first | done | rfl) ?_
    refine (HC.out).mono ?_
    rintro e_ w7_ ⟨rfl, hb⟩
    refine ⟨_, rfl, ?_⟩
    replace b3 := b3.keep hb
    replace b5 := b5.keep hb
    replace hB := keep_below hB hb
    replace hI := hI.below hb
    replace HT := Lib.hid (TabIs.below HT.out hb)
    replace b7 := b7.keep hb
    replace h7 := h7.below hb
    clear hb
    refine pl_norm (a' := ?_) ?_ ?_
    rotate_left
    · first | (show Act.put _ (some 76) _ = _; simp only [Act.put, List.setIfInBounds_toArray, List.set_cons_zero, List.set_cons_succ, i64_w, i32_w]; rfl) | with_reducible rfl
    clear HC
    refine pl_val (N := some 77) (v := ?_) (a' := ?_) rfl (by rfl) ?_ ?_ ?_
    rotate_left
    · go_simp
      with_reducible rfl
    rotate_left
    · simp only [Act.put, List.setIfInBounds_toArray, List.set_cons_zero, List.set_cons_succ, i64_w, i32_w]
      rfl
    refine pl_val (N := some 78) (v := ?_) (a' := ?_) rfl (by rfl) ?_ ?_ ?_
    rotate_left
    · go_simp
      with_reducible rfl
    rotate_left
    · simp only [Act.put, List.setIfInBounds_toArray, List.set_cons_zero, List.set_cons_succ, i64_w, i32_w]
      rfl
    refine pl_val (N := some 79) (v := ?_) (a' := ?_) rfl (by rfl) ?_ ?_ ?_
    rotate_left
    · go_simp
      with_reducible rfl
    rotate_left
    · simp only [Act.put, List.setIfInBounds_toArray, List.set_cons_zero, List.set_cons_succ, i64_w, i32_w]
      rfl
    refine pl_val (N := some 80) (v := ?_) (a' := ?_) rfl (by rfl) ?_ ?_ ?_
    rotate_left
    · go_simp
      with_reducible rfl
    rotate_left
    · simp only [Act.put, List.setIfInBounds_toArray, List.set_cons_zero, List.set_cons_succ, i64_w, i32_w]
      rfl
    refine pl_val (N := some 81) (v := ?_) (a' := ?_) rfl (by rfl) ?_ ?_ ?_
    rotate_left
    · go_simp
      with_reducible rfl
    rotate_left
    · simp only [Act.put, List.setIfInBounds_toArray, List.set_cons_zero, List.set_cons_succ, i64_w, i32_w]
      rfl
    refine pl_val (N := some 6) (v := ?_) (a' := ?_) rfl (by rfl) ?_ ?_ ?_
    rotate_left
    · go_simp
      with_reducible rfl
    rotate_left
    · simp only [Act.put, List.setIfInBounds_toArray, List.set_cons_zero, List.set_cons_succ, i64_w, i32_w]
      rfl
    refine wpList_nil ?_
    go_wp2
    go_ret
    exact ⟨rfl, hB⟩
  have e0 : (er != 0) = false := by simp [h0]
  have d0 : (er == 0) = true := beq_iff_eq.mpr h0
  have hts : t = { s with f0 := 3, f4 := plainO o } := by
    rw [← HS.out]
    unfold askS
    rw [if_neg (by rw [HM.out]; simp), if_neg H3.out, if_pos]
    have := HE.out
    unfold askE at this
    rw [if_neg (by rw [HM.out]; simp), if_neg H3.out] at this
    exact this.trans h0
  have HTS := Lib.hid hts
  clear h0 hts
  go_upto_region 17 with fail
  refine wp_region_list ?_
  refine pl_val (N := some 82) (v := .agg (sv s p)) (a' := ?_) rfl (by rfl) (load_row_run 33 _ rfl (w.heap.size) rfl 33 (sv s p) _ (b3) Tryd.underlying33 rfl (by first | kernel_rfl | rfl)) ?_ ?_
  rotate_left
  · simp only [Act.put, List.setIfInBounds_toArray, List.set_cons_zero, List.set_cons_succ, i64_w, i32_w]
    rfl
  have hY := Below.refl w6_.heap.size w6_
  refine pl_make (N := some 10) (v := .pointer (some ⟨(w6_).heap.size, 0, none⟩)) (W' := (w6_).alloc (.cells #[.int .i64 0, .int .u64 0, .bool false, .int .u64 0, .int .i64 0, .bool false, .int .u32 0, .int .i64 0, .int .i64 0, .int .i64 0, .int .i64 0, .int .i64 0, .int .i64 0, .int .i64 0, .int .i64 0, .int .i64 0, .int .i64 0, .slice none 0 0, .slice none 0 0, .slice none 0 0] 33)) (a' := ?_) rfl (by rfl) (by first | (go_simp; done) | (go_simp; rfl)) ?_ ?_
  rotate_left
  · simp only [Act.put, List.setIfInBounds_toArray, List.set_cons_zero, List.set_cons_succ, i64_w, i32_w]
    rfl
  have n_ := new_row w6_ #[.int .i64 0, .int .u64 0, .bool false, .int .u64 0, .int .i64 0, .bool false, .int .u32 0, .int .i64 0, .int .i64 0, .int .i64 0, .int .i64 0, .int .i64 0, .int .i64 0, .int .i64 0, .int .i64 0, .int .i64 0, .int .i64 0, .slice none 0 0, .slice none 0 0, .slice none 0 0] (sv s p) 33
  have b_ : Blk (w6_.alloc (.cells #[.int .i64 0, .int .u64 0, .bool false, .int .u64 0, .int .i64 0, .bool false, .int .u32 0, .int .i64 0, .int .i64 0, .int .i64 0, .int .i64 0, .int .i64 0, .int .i64 0, .int .i64 0, .int .i64 0, .int .i64 0, .int .i64 0, .slice none 0 0, .slice none 0 0, .slice none 0 0] 33)) w6_.heap.size 33 #[.int .i64 0, .int .u64 0, .bool false, .int .u64 0, .int .i64 0, .bool false, .int .u32 0, .int .i64 0, .int .i64 0, .int .i64 0, .int .i64 0, .int .i64 0, .int .i64 0, .int .i64 0, .int .i64 0, .int .i64 0, .int .i64 0, .slice none 0 0, .slice none 0 0, .slice none 0 0] := Blk.new w6_ 33 _
  refine pl_skip (W' := _) rfl (by rfl) (store_row_run (g := w6_.heap.size) 33 _ _ rfl rfl (cells := (sv s p)) rfl 33 (b_) (by first | kernel_rfl | rfl) rfl (sv_one _ _)) ?_
  clear b_
  obtain ⟨b10, hle⟩ := n_
  have Sb10 := Lib.hid (show w.heap.size ≤ w6_.heap.size from hB.size)
  replace hB := keep_below hB hle
  replace hY := keep_below hY hle
  replace b5 := b5.keep hle
  generalize (w6_.alloc (.cells #[.int .i64 0, .int .u64 0, .bool false, .int .u64 0, .int .i64 0, .bool false, .int .u32 0, .int .i64 0, .int .i64 0, .int .i64 0, .int .i64 0, .int .i64 0, .int .i64 0, .int .i64 0, .int .i64 0, .int .i64 0, .int .i64 0, .slice none 0 0, .slice none 0 0, .slice none 0 0] 33)).setRow w6_.heap.size (sv s p) = w7_ at hB hY b5 b10 hle ⊢
  clear hle
  refine wpList_nil ?_
  go_upto_region 18 with fail
  refine wp_region_list ?_
  refine pl_val (N := some 83) (v := .agg (ov o)) (a' := ?_) rfl (by rfl) (load_row_run 27 _ rfl (w.heap.size + 1) rfl 27 (ov o) _ (b5) Tryd.underlying27 rfl (by first | kernel_rfl | rfl)) ?_ ?_
  rotate_left
  · simp only [Act.put, List.setIfInBounds_toArray, List.set_cons_zero, List.set_cons_succ, i64_w, i32_w]
    rfl
  refine pl_call Tryd.func19 (by kernel_rfl) rfl #[.agg (ov o)] (by rfl) rfl rfl (by (try simp only [List.map_toArray, List.map_cons, List.map_nil]); first | done | rfl) ?_
  refine ((rplain_c o _).out).mono ?_
  rintro e_ w8_ ⟨rfl, hb⟩
  refine ⟨_, rfl, ?_⟩
  replace hB := keep_below hB hb
  replace hY := keep_below hY hb
  replace b5 := b5.keep hb
  replace b10 := b10.keep hb
  clear hb
  refine pl_norm (a' := ?_) ?_ ?_
  rotate_left
  · first | (show Act.put _ (some 84) _ = _; simp only [Act.put, List.setIfInBounds_toArray, List.set_cons_zero, List.set_cons_succ, i64_w, i32_w]; rfl) | with_reducible rfl
  have z_ := b10.frozen 0
  have c_ := sc0 b10
  refine pl_val (N := some 85) (v := ?_) (a' := ?_) rfl (by rfl) ?_ ?_ ?_
  rotate_left
  · go_simp
    with_reducible rfl
  rotate_left
  · simp only [Act.put, List.setIfInBounds_toArray, List.set_cons_zero, List.set_cons_succ, i64_w, i32_w]
    rfl
  refine pl_skip (W' := ?_) rfl (by rfl) ?_ ?_
  rotate_left
  · go_simp
    with_reducible rfl
  clear z_ c_
  have b11 : Blk (w8_.setCell ⟨w6_.heap.size, 0, none⟩ (.int .i64 3)) w6_.heap.size 33 (sv { s with f0 := 3 } p) := b10.set_ 0 (.int .i64 3)
  have hB' := hB.setCell (p := ⟨w6_.heap.size, 0, none⟩) Sb10.out (.int .i64 3)
  have hY' := hY.setCell (p := ⟨w6_.heap.size, 0, none⟩) (Nat.le_refl _) (.int .i64 3)
  generalize w8_.setCell ⟨w6_.heap.size, 0, none⟩ (.int .i64 3) = X1 at b11 hB' hY' ⊢
  clear b10 b5 hB hY
  refine pl_val (N := some 86) (v := ?_) (a' := ?_) rfl (by rfl) ?_ ?_ ?_
  rotate_left
  · go_simp
    with_reducible rfl
  rotate_left
  · simp only [Act.put, List.setIfInBounds_toArray, List.set_cons_zero, List.set_cons_succ, i64_w, i32_w]
    rfl
  refine pl_skip (W' := _) rfl (by rfl) (store_sub_run (g := w6_.heap.size) (off := 4) 27 _ _ rfl rfl (sub := (ov (plainO o))) rfl 33 (b11) (by first | kernel_rfl | rfl) (Nat.le_of_ble_eq_true rfl) (ov_one _)) ?_
  rw [sv_putop]
  refine wpList_nil ?_
  have b12 := Blk.row_ b11 (sv { s with f0 := 3, f4 := plainO o } p)
  have hB := Below.row_ hB' Sb10.out (sv { s with f0 := 3, f4 := plainO o } p)
  have hY := Below.row_ hY' (Nat.le_refl _) (sv { s with f0 := 3, f4 := plainO o } p)
  generalize X1.setRow w6_.heap.size (sv { s with f0 := 3, f4 := plainO o } p) = X2 at b12 hB hY ⊢
  clear b11 hB' hY'
  have HC := rsame_c (t := { s with f0 := 3, f4 := plainO o }) (q := p) hkt.1 (h7.In.below hY) (hI.below hY)
  rw [show sameB t { s with f0 := 3, f4 := plainO o } = true by rw [← HTS.out]; exact sameB_refl _] at HC
  go_upto_region 19 with fail
  refine wp_region_list ?_
  refine pl_val (N := some 87) (v := ?_) (a' := ?_) rfl (by rfl) ?_ ?_ ?_
  rotate_left
  · go_simp
    with_reducible rfl
  rotate_left
  · simp only [Act.put, List.setIfInBounds_toArray, List.set_cons_zero, List.set_cons_succ, i64_w, i32_w]
    rfl
  refine pl_val (N := some 88) (v := ?_) (a' := ?_) rfl (by rfl) ?_ ?_ ?_
  rotate_left
  · go_simp
    with_reducible rfl
  rotate_left
  · simp only [Act.put, List.setIfInBounds_toArray, List.set_cons_zero, List.set_cons_succ, i64_w, i32_w]
    rfl
  refine pl_val (N := some 89) (v := ?_) (a' := ?_) rfl (by rfl) ?_ ?_ ?_
  rotate_left
  · go_simp
    with_reducible rfl
  rotate_left
  · simp only [Act.put, List.setIfInBounds_toArray, List.set_cons_zero, List.set_cons_succ, i64_w, i32_w]
    rfl
  refine pl_val (N := some 90) (v := .agg (sv t p7)) (a' := ?_) rfl (by rfl) (load_row_run 33 _ rfl (g7) rfl 33 (sv t p7) _ ((b7.keep hY)) Tryd.underlying33 rfl (by first | kernel_rfl | rfl)) ?_ ?_
  rotate_left
  · simp only [Act.put, List.setIfInBounds_toArray, List.set_cons_zero, List.set_cons_succ, i64_w, i32_w]
    rfl
  refine pl_val (N := some 91) (v := .agg (sv { s with f0 := 3, f4 := plainO o } p)) (a' := ?_) rfl (by rfl) (load_row_run 33 _ rfl (w6_.heap.size) rfl 33 (sv { s with f0 := 3, f4 := plainO o } p) _ (b12) Tryd.underlying33 rfl (by first | kernel_rfl | rfl)) ?_ ?_
  rotate_left
  · simp only [Act.put, List.setIfInBounds_toArray, List.set_cons_zero, List.set_cons_succ, i64_w, i32_w]
    rfl
  refine pl_call Tryd.func15 (by kernel_rfl) rfl #[.agg (sv t p7), .agg (sv { s with f0 := 3, f4 := plainO o } p)] (by rfl) rfl rfl (by (try simp only [List.map_toArray, List.map_cons, List.map_nil]); first | done | rfl) ?_
  refine (HC.out).mono ?_
  rintro e_ w9_ ⟨rfl, hb⟩
  refine ⟨_, rfl, ?_⟩
  replace hB := keep_below hB hb
  clear hb
  refine pl_norm (a' := ?_) ?_ ?_
  rotate_left
  · first | (show Act.put _ (some 92) _ = _; simp only [Act.put, List.setIfInBounds_toArray, List.set_cons_zero, List.set_cons_succ, i64_w, i32_w]; rfl) | with_reducible rfl
  refine pl_val (N := some 93) (v := ?_) (a' := ?_) rfl (by rfl) ?_ ?_ ?_
  rotate_left
  · go_simp
    with_reducible rfl
  rotate_left
  · simp only [Act.put, List.setIfInBounds_toArray, List.set_cons_zero, List.set_cons_succ, i64_w, i32_w]
    rfl
  refine pl_val (N := some 6) (v := ?_) (a' := ?_) rfl (by rfl) ?_ ?_ ?_
  rotate_left
  · go_simp
    with_reducible rfl
  rotate_left
  · simp only [Act.put, List.setIfInBounds_toArray, List.set_cons_zero, List.set_cons_succ, i64_w, i32_w]
    rfl
  refine wpList_nil ?_
  go_wp2
  go_ret
  exact ⟨rfl, hB⟩
end Go.Proofs.YtiamkgoajkfofaaDoor.S
