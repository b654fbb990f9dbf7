/- What the row of this claim reaches. No condition. -/
import Derived.Test.YtiamkgoajkfofaaDoorXSGive
import Derived.Test.YtiamkgoajkfofaaDoorXSSame
import Derived.Test.YtiamkgoajkfofaaDoorXX4
set_option linter.unusedVariables false
set_option linter.unusedSimpArgs false
namespace Go.Proofs.YtiamkgoajkfofaaDoor.S
open Go.RowKit Go.Proofs.YtiamkgoajkfofaaDoorW.PrintWords Go.Proofs.YtiamkgoajkfofaaDoorW.PrintLast Go.Proofs.YtiamkgoajkfofaaDoorW.PrintMore
def largeB (s : S33) : Bool := decide (300 < s.f6.f1.length) || (decide (300 < s.f6.f2.length) || decide (300 < s.f7.length))
theorem large_v (s : S33) : gazetteerlaw21_large.f s.f0 s.f1 s.f2 s.f3 s.f4.f0 s.f4.f1 s.f4.f2 s.f4.f3.f0 s.f4.f3.f1 s.f4.f3.f2 s.f4.f3.f3 s.f4.f4 s.f5 s.f6.f0.f0 s.f6.f0.f1 s.f6.f0.f2 s.f6.f0.f3 s.f6.f1 s.f6.f2 s.f7 = some (largeB s) := by
  unfold gazetteerlaw21_large.f largeB
  by_cases h1 : 300 < s.f6.f1.length
  · rw [if_pos (by omega), decide_eq_true h1]; rfl
  · rw [if_neg (by omega), decide_eq_false h1]
    by_cases h2 : 300 < s.f6.f2.length
    · rw [if_pos (by omega), decide_eq_true h2]; rfl
    · rw [if_neg (by omega), decide_eq_false h2]
      simp only [Bool.false_or]
      congr 1
      by_cases h3 : 300 < s.f7.length
      · rw [decide_eq_true h3, decide_eq_true (by omega)]
      · rw [decide_eq_false h3, decide_eq_false (by omega)]
theorem large_c {s : S33} {p : Pt} {W : World} (hi : In W s p) : Hid (Calls Tryd.prog 9 #[.agg (sv s p)] W fun e w' => e = .returned (.bool (largeB s)) ∧ Below W.heap.size W w') :=
  Lib.hid ((gazetteerlaw21_large.calls s.f0 s.f1 s.f2 s.f3 s.f4.f0 s.f4.f1 s.f4.f2 s.f4.f3.f0 s.f4.f3.f1 s.f4.f3.f2 s.f4.f3.f3 s.f4.f4 s.f5 s.f6.f0.f0 s.f6.f0.f1 s.f6.f0.f2 s.f6.f0.f3 p.A17 p.c17 s.f6.f1 p.A18 p.c18 s.f6.f2 p.A19 p.c19 s.f7 (largeB s) W hi.1.1 hi.1.2 hi.2.1.1 hi.2.1.2 hi.2.2.1 hi.2.2.2 (large_v s)).mono fun _ _ h => And.intro h.1 (by first | exact h.2 | exact h.2.below))
theorem not_large {s : S33} (h : largeB s = false) : Lens s := by
  unfold largeB at h
  simp only [Bool.or_eq_false_iff, decide_eq_false_iff_not] at h
  exact ⟨by omega, by omega, by omega⟩
set_option maxHeartbeats 4000000 in
set_option maxRecDepth 100000 in
theorem none_any (s : S33) (p : Pt) (w : World) (hl : Lens s) (hi : In w s p) :
    Calls Tryd.prog 12 #[.agg (sv s p)] w fun e w' => e = .returned (.bool (sameB s z33)) ∧ Below w.heap.size w w' := by
  obtain ⟨W, hW⟩ : ∃ W, w.alloc (.cells (sv s p) 33) = W := ⟨_, rfl⟩
  have b : Blk W w.heap.size 33 (sv s p) := by rw [← hW]; exact Blk.new w 33 _
  have hB : Below w.heap.size w W := by rw [← hW]; exact keep_below_alloc _ (Below.refl _ _)
  have HC := rsame_c (t := z33) (q := p0) hl (hi.below hB) (In.zero W)
  have HW := Lib.hid hW
  clear hW hi
  go_enter Tryd.func12, Tryd.ntmps12
  go_upto_region 1 with fail
  rw [HW.out]
  clear HW
  refine wp_region_list ?_
  refine pl_val (N := some 3) (v := .agg (sv s p)) (a' := ?_) rfl (by rfl) (load_row_run 33 _ rfl (w.heap.size) rfl 33 (sv s p) _ (b) Tryd.underlying33 rfl (by first | kernel_rfl | rfl)) ?_ ?_
  rotate_left
  · simp only [Act.put, List.setIfInBounds_toArray, List.set_cons_zero, List.set_cons_succ, i64_w, i32_w]
    rfl
  refine pl_val (N := some 4) (v := .agg (sv z33 p0)) (a' := ?_) rfl (by rfl) (by first | rfl | (go_simp; done) | (go_simp; rfl)) ?_ ?_
  rotate_left
  · simp only [Act.put, List.setIfInBounds_toArray, List.set_cons_zero, List.set_cons_succ, i64_w, i32_w]
    rfl
  refine pl_call Tryd.func15 (by kernel_rfl) rfl #[.agg (sv s p), .agg (sv z33 p0)] (by rfl) rfl rfl (by (try simp only [List.map_toArray, List.map_cons, List.map_nil]); first | done | rfl) ?_
  refine HC.out.mono ?_
  rintro e w1 ⟨rfl, hb⟩
  refine ⟨_, rfl, ?_⟩
  have hB1 := keep_below hB hb
  clear b hB hb HC
  refine pl_norm (a' := ?_) ?_ ?_
  rotate_left
  · first | (show Act.put _ (some 5) _ = _; simp only [Act.put, List.setIfInBounds_toArray, List.set_cons_zero, List.set_cons_succ, i64_w, i32_w]; rfl) | with_reducible rfl
  refine pl_val (N := some 2) (v := ?_) (a' := ?_) rfl (by rfl) ?_ ?_ ?_
  rotate_left
  · go_simp
    with_reducible rfl
  rotate_left
  · simp only [Act.put, List.setIfInBounds_toArray, List.set_cons_zero, List.set_cons_succ, i64_w, i32_w]
    rfl
  refine wpList_nil ?_
  go_wp2
  go_ret
  exact ⟨rfl, hB1⟩
theorem none_c {s : S33} {p : Pt} {W : World} (hl : Lens s) (hi : In W s p) : Hid (Calls Tryd.prog 12 #[.agg (sv s p)] W fun e w' => e = .returned (.bool (sameB s z33)) ∧ Below W.heap.size W w') := Lib.hid (none_any s p W hl hi)
theorem new_row (W : World) (z cells : Array Value) (t : TypeId) : Blk ((W.alloc (.cells z t)).setRow W.heap.size cells) W.heap.size t cells ∧ Below W.heap.size W ((W.alloc (.cells z t)).setRow W.heap.size cells) :=
  ⟨Blk.row_ (Blk.new W t z) cells, Below.row_ (keep_below_alloc (.cells z t) (Below.refl W.heap.size W)) (Nat.le_refl _) cells⟩
theorem ask_c {s : S33} {p : Pt} {c : Int} {o : S27} {W : World} (hk : Okk s) (hT : TabIs W) (hi : In W s p) : Hid (Calls Tryd.prog 10 #[.agg (sv s p), .int .i64 c, .agg (ov o)] W fun e w' => ∃ p', e = .returned (.tuple #[.agg (sv (askS s c o) p'), .int .i64 (askE s c o)]) ∧ InR w' W.heap.size (askS s c o) p' ∧ Below W.heap.size W w') := by
  refine Lib.hid ((ask_any s p c o W hk hT hi).mono ?_)
  rintro e w' ⟨v, rfl, p', rfl, h1, h2⟩
  exact ⟨p', rfl, h1, h2⟩
theorem began_c {s : S33} {p : Pt} {txn snap : Int} {W : World} (hk : Okk s) (hT : TabIs W) (hi : In W s p) : Hid (Calls Tryd.prog 20 #[.agg (sv s p), .int .u64 txn, .int .u64 snap] W fun e w' => ∃ p', e = .returned (.tuple #[.agg (sv (turnS s (beganB s txn snap) (beganS s txn snap)) p'), .int .i64 (turnE s (beganB s txn snap))]) ∧ InR w' W.heap.size (turnS s (beganB s txn snap) (beganS s txn snap)) p' ∧ Below W.heap.size W w') := Lib.hid (began_any s p txn snap W hk hT hi)
def wS : S33 := { z33 with f0 := 1 }
def wO : S27 := { z27 with f0 := 1 }
def wT : S33 := askS wS 1 wO
theorem wOk : Okk wS := ⟨⟨by decide, by decide, by decide⟩, fun x h => by cases h⟩
theorem wE : askE wS 1 wO = 0 := by decide
theorem wOkT : Okk wT := ⟨⟨by decide, by decide, by decide⟩, fun x h => by cases h⟩
theorem wR : readyF wT = 0 := by decide
theorem wW : wantsT wT = (1, 0, 0) := by decide
theorem wBg : beganB wT 7 0 = true := by decide
theorem wU : turnS wT (beganB wT 7 0) (beganS wT 7 0) = beganS wT 7 0 := by rw [wBg]; unfold turnS; rw [wR]; rfl
theorem wUE : turnE wT (beganB wT 7 0) = 0 := by rw [wBg]; unfold turnE; rw [wR]; rfl
set_option maxHeartbeats 8000000 in
set_option maxRecDepth 100000 in
theorem wakes_any (w : World) (hT : TabIs w) : Calls Tryd.prog 8 #[] w fun e w' => e = .returned (.bool true) ∧ Below w.heap.size w w' := by
  have HC := ask_c (c := 1) (o := wO) (p := p0) wOk hT (In.zero w)
  rw [wE] at HC
  change Hid (Calls _ _ _ _ fun e w' => ∃ p', e = .returned (.tuple #[.agg (sv wT p'), .int .i64 0]) ∧ InR w' w.heap.size wT p' ∧ Below w.heap.size w w') at HC
  have HT := Lib.hid hT
  have hB := Below.refl w.heap.size w
  clear hT
  go_enter Tryd.func8, Tryd.ntmps8
  go_upto_region 1 with fail
  refine wp_region_list ?_
  refine pl_val (N := some 7) (v := .agg (sv wS p0)) (a' := ?_) rfl (by rfl) (by first | rfl | (go_simp; done) | (go_simp; rfl)) ?_ ?_
  rotate_left
  · simp only [Act.put, List.setIfInBounds_toArray, List.set_cons_zero, List.set_cons_succ, i64_w, i32_w]
    rfl
  refine pl_val (N := some 8) (v := .agg (ov wO)) (a' := ?_) rfl (by rfl) (by first | rfl | (go_simp; done) | (go_simp; rfl)) ?_ ?_
  rotate_left
  · simp only [Act.put, List.setIfInBounds_toArray, List.set_cons_zero, List.set_cons_succ, i64_w, i32_w]
    rfl
  refine pl_call Tryd.func10 (by kernel_rfl) rfl #[.agg (sv wS p0), .int .i64 1, .agg (ov wO)] (by rfl) rfl rfl (by (try simp only [List.map_toArray, List.map_cons, List.map_nil]); first | done | rfl) ?_
  refine (HC.out).mono ?_
  rintro e_ w1_ ⟨p1, rfl, hR, hb⟩
  refine ⟨_, rfl, ?_⟩
  replace HT := Lib.hid (TabIs.below HT.out hb)
  replace hB := keep_below hB hb
  clear hb
  refine pl_norm (a' := ?_) ?_ ?_
  rotate_left
  · first | (show Act.put _ (some 9) _ = _; simp only [Act.put, List.setIfInBounds_toArray, List.set_cons_zero, List.set_cons_succ, i64_w, i32_w]; rfl) | with_reducible rfl
  clear HC
  refine pl_val (N := some 6) (v := ?_) (a' := ?_) rfl (by rfl) ?_ ?_ ?_
  rotate_left
  · go_simp
    with_reducible rfl
  rotate_left
  · simp only [Act.put, List.setIfInBounds_toArray, List.set_cons_zero, List.set_cons_succ, i64_w, i32_w]
    rfl
  refine pl_val (N := some 10) (v := ?_) (a' := ?_) rfl (by rfl) ?_ ?_ ?_
  rotate_left
  · go_simp
    with_reducible rfl
  rotate_left
  · simp only [Act.put, List.setIfInBounds_toArray, List.set_cons_zero, List.set_cons_succ, i64_w, i32_w]
    rfl
  refine pl_val (N := some 11) (v := ?_) (a' := ?_) rfl (by rfl) ?_ ?_ ?_
  rotate_left
  · go_simp
    with_reducible rfl
  rotate_left
  · simp only [Act.put, List.setIfInBounds_toArray, List.set_cons_zero, List.set_cons_succ, i64_w, i32_w]
    rfl
  refine pl_make (N := some 1) (v := .pointer (some ⟨(w1_).heap.size, 0, none⟩)) (W' := (w1_).alloc (.cells #[.int .i64 0, .int .u64 0, .bool false, .int .u64 0, .int .i64 0, .bool false, .int .u32 0, .int .i64 0, .int .i64 0, .int .i64 0, .int .i64 0, .int .i64 0, .int .i64 0, .int .i64 0, .int .i64 0, .int .i64 0, .int .i64 0, .slice none 0 0, .slice none 0 0, .slice none 0 0] 33)) (a' := ?_) rfl (by rfl) (by first | (go_simp; done) | (go_simp; rfl)) ?_ ?_
  rotate_left
  · simp only [Act.put, List.setIfInBounds_toArray, List.set_cons_zero, List.set_cons_succ, i64_w, i32_w]
    rfl
  have n_ := new_row w1_ #[.int .i64 0, .int .u64 0, .bool false, .int .u64 0, .int .i64 0, .bool false, .int .u32 0, .int .i64 0, .int .i64 0, .int .i64 0, .int .i64 0, .int .i64 0, .int .i64 0, .int .i64 0, .int .i64 0, .int .i64 0, .int .i64 0, .slice none 0 0, .slice none 0 0, .slice none 0 0] (sv wT p1) 33
  have b_ : Blk (w1_.alloc (.cells #[.int .i64 0, .int .u64 0, .bool false, .int .u64 0, .int .i64 0, .bool false, .int .u32 0, .int .i64 0, .int .i64 0, .int .i64 0, .int .i64 0, .int .i64 0, .int .i64 0, .int .i64 0, .int .i64 0, .int .i64 0, .int .i64 0, .slice none 0 0, .slice none 0 0, .slice none 0 0] 33)) w1_.heap.size 33 #[.int .i64 0, .int .u64 0, .bool false, .int .u64 0, .int .i64 0, .bool false, .int .u32 0, .int .i64 0, .int .i64 0, .int .i64 0, .int .i64 0, .int .i64 0, .int .i64 0, .int .i64 0, .int .i64 0, .int .i64 0, .int .i64 0, .slice none 0 0, .slice none 0 0, .slice none 0 0] := Blk.new w1_ 33 _
  refine pl_skip (W' := _) rfl (by rfl) (store_row_run (g := w1_.heap.size) 33 _ _ rfl rfl (cells := (sv wT p1)) rfl 33 (b_) (by first | kernel_rfl | rfl) rfl (sv_one _ _)) ?_
  clear b_
  obtain ⟨b1, hle⟩ := n_
  have Sb1 := Lib.hid (show w.heap.size ≤ w1_.heap.size from hB.size)
  replace HT := Lib.hid (TabIs.below HT.out hle)
  replace hB := keep_below hB hle
  replace hR := hR.below hle
  generalize (w1_.alloc (.cells #[.int .i64 0, .int .u64 0, .bool false, .int .u64 0, .int .i64 0, .bool false, .int .u32 0, .int .i64 0, .int .i64 0, .int .i64 0, .int .i64 0, .int .i64 0, .int .i64 0, .int .i64 0, .int .i64 0, .int .i64 0, .int .i64 0, .slice none 0 0, .slice none 0 0, .slice none 0 0] 33)).setRow w1_.heap.size (sv wT p1) = w2_ at HT hB hR b1 hle ⊢
  clear hle
  refine pl_val (N := some 2) (v := ?_) (a' := ?_) rfl (by rfl) ?_ ?_ ?_
  rotate_left
  · go_simp
    with_reducible rfl
  rotate_left
  · simp only [Act.put, List.setIfInBounds_toArray, List.set_cons_zero, List.set_cons_succ, i64_w, i32_w]
    rfl
  refine wpList_nil ?_
  have HC := wants_c wOkT HT.out hR.In
  rw [wW, wR] at HC
  go_upto_region 2 with fail
  refine wp_region_list ?_
  refine pl_val (N := some 13) (v := .agg (sv wT p1)) (a' := ?_) rfl (by rfl) (load_row_run 33 _ rfl (w1_.heap.size) rfl 33 (sv wT p1) _ (b1) Tryd.underlying33 rfl (by first | kernel_rfl | rfl)) ?_ ?_
  rotate_left
  · simp only [Act.put, List.setIfInBounds_toArray, List.set_cons_zero, List.set_cons_succ, i64_w, i32_w]
    rfl
  refine pl_call Tryd.func13 (by kernel_rfl) rfl #[.agg (sv wT p1)] (by rfl) rfl rfl (by (try simp only [List.map_toArray, List.map_cons, List.map_nil]); first | done | rfl) ?_
  refine (HC.out).mono ?_
  rintro e_ w3_ ⟨rfl, hb⟩
  refine ⟨_, rfl, ?_⟩
  replace HT := Lib.hid (TabIs.below HT.out hb)
  replace hB := keep_below hB hb
  replace hR := hR.below hb
  replace b1 := b1.keep hb
  clear hb
  refine pl_norm (a' := ?_) ?_ ?_
  rotate_left
  · first | (show Act.put _ (some 14) _ = _; simp only [Act.put, List.setIfInBounds_toArray, List.set_cons_zero, List.set_cons_succ, i64_w, i32_w]; rfl) | with_reducible rfl
  clear HC
  refine pl_val (N := some 12) (v := ?_) (a' := ?_) rfl (by rfl) ?_ ?_ ?_
  rotate_left
  · go_simp
    with_reducible rfl
  rotate_left
  · simp only [Act.put, List.setIfInBounds_toArray, List.set_cons_zero, List.set_cons_succ, i64_w, i32_w]
    rfl
  refine pl_val (N := some 15) (v := ?_) (a' := ?_) rfl (by rfl) ?_ ?_ ?_
  rotate_left
  · go_simp
    with_reducible rfl
  rotate_left
  · simp only [Act.put, List.setIfInBounds_toArray, List.set_cons_zero, List.set_cons_succ, i64_w, i32_w]
    rfl
  refine pl_val (N := some 16) (v := ?_) (a' := ?_) rfl (by rfl) ?_ ?_ ?_
  rotate_left
  · go_simp
    with_reducible rfl
  rotate_left
  · simp only [Act.put, List.setIfInBounds_toArray, List.set_cons_zero, List.set_cons_succ, i64_w, i32_w]
    rfl
  refine pl_make (N := some 3) (v := .pointer (some ⟨(w3_).heap.size, 0, none⟩)) (W' := (w3_).alloc (.cells #[.int .i64 0, .int .u32 0, .int .i64 0] 41)) (a' := ?_) rfl (by rfl) (by first | (go_simp; done) | (go_simp; rfl)) ?_ ?_
  rotate_left
  · simp only [Act.put, List.setIfInBounds_toArray, List.set_cons_zero, List.set_cons_succ, i64_w, i32_w]
    rfl
  have n_ := new_row w3_ #[.int .i64 0, .int .u32 0, .int .i64 0] #[.int .i64 1, .int .u32 0, .int .i64 0] 41
  have b_ : Blk (w3_.alloc (.cells #[.int .i64 0, .int .u32 0, .int .i64 0] 41)) w3_.heap.size 41 #[.int .i64 0, .int .u32 0, .int .i64 0] := Blk.new w3_ 41 _
  refine pl_skip (W' := _) rfl (by rfl) (store_row_run (g := w3_.heap.size) 41 _ _ rfl rfl (cells := #[.int .i64 1, .int .u32 0, .int .i64 0]) rfl 41 (b_) (by first | kernel_rfl | rfl) rfl (by simp [Value.oneCell'])) ?_
  clear b_
  obtain ⟨b2, hle⟩ := n_
  have Sb2 := Lib.hid (show w.heap.size ≤ w3_.heap.size from hB.size)
  replace HT := Lib.hid (TabIs.below HT.out hle)
  replace hB := keep_below hB hle
  replace hR := hR.below hle
  replace b1 := b1.keep hle
  generalize (w3_.alloc (.cells #[.int .i64 0, .int .u32 0, .int .i64 0] 41)).setRow w3_.heap.size #[.int .i64 1, .int .u32 0, .int .i64 0] = w4_ at HT hB hR b1 b2 hle ⊢
  clear hle
  refine pl_val (N := some 4) (v := ?_) (a' := ?_) rfl (by rfl) ?_ ?_ ?_
  rotate_left
  · go_simp
    with_reducible rfl
  rotate_left
  · simp only [Act.put, List.setIfInBounds_toArray, List.set_cons_zero, List.set_cons_succ, i64_w, i32_w]
    rfl
  refine wpList_nil ?_
  have HC := began_c (txn := 7) (snap := 0) wOkT HT.out hR.In
  rw [wU, wUE] at HC
  go_upto_region 3 with fail
  refine wp_region_list ?_
  refine pl_val (N := some 18) (v := .agg (sv wT p1)) (a' := ?_) rfl (by rfl) (load_row_run 33 _ rfl (w1_.heap.size) rfl 33 (sv wT p1) _ (b1) Tryd.underlying33 rfl (by first | kernel_rfl | rfl)) ?_ ?_
  rotate_left
  · simp only [Act.put, List.setIfInBounds_toArray, List.set_cons_zero, List.set_cons_succ, i64_w, i32_w]
    rfl
  refine pl_call Tryd.func20 (by kernel_rfl) rfl #[.agg (sv wT p1), .int .u64 7, .int .u64 0] (by rfl) rfl rfl (by (try simp only [List.map_toArray, List.map_cons, List.map_nil]); first | done | rfl) ?_
  refine (HC.out).mono ?_
  rintro e_ w5_ ⟨p2, rfl, hR2, hb⟩
  refine ⟨_, rfl, ?_⟩
  replace HT := Lib.hid (TabIs.below HT.out hb)
  replace hB := keep_below hB hb
  replace hR := hR.below hb
  replace b1 := b1.keep hb
  replace b2 := b2.keep hb
  clear hb
  refine pl_norm (a' := ?_) ?_ ?_
  rotate_left
  · first | (show Act.put _ (some 19) _ = _; simp only [Act.put, List.setIfInBounds_toArray, List.set_cons_zero, List.set_cons_succ, i64_w, i32_w]; rfl) | with_reducible rfl
  clear HC
  refine pl_val (N := some 17) (v := ?_) (a' := ?_) rfl (by rfl) ?_ ?_ ?_
  rotate_left
  · go_simp
    with_reducible rfl
  rotate_left
  · simp only [Act.put, List.setIfInBounds_toArray, List.set_cons_zero, List.set_cons_succ, i64_w, i32_w]
    rfl
  refine pl_val (N := some 20) (v := ?_) (a' := ?_) rfl (by rfl) ?_ ?_ ?_
  rotate_left
  · go_simp
    with_reducible rfl
  rotate_left
  · simp only [Act.put, List.setIfInBounds_toArray, List.set_cons_zero, List.set_cons_succ, i64_w, i32_w]
    rfl
  refine pl_val (N := some 21) (v := ?_) (a' := ?_) rfl (by rfl) ?_ ?_ ?_
  rotate_left
  · go_simp
    with_reducible rfl
  rotate_left
  · simp only [Act.put, List.setIfInBounds_toArray, List.set_cons_zero, List.set_cons_succ, i64_w, i32_w]
    rfl
  refine pl_skip (W' := _) rfl (by rfl) (store_row_run (g := w1_.heap.size) 33 _ _ rfl rfl (cells := (sv (beganS wT 7 0) p2)) rfl 33 (b1) (by first | kernel_rfl | rfl) rfl (sv_one _ _)) ?_
  refine pl_val (N := some 5) (v := ?_) (a' := ?_) rfl (by rfl) ?_ ?_ ?_
  rotate_left
  · go_simp
    with_reducible rfl
  rotate_left
  · simp only [Act.put, List.setIfInBounds_toArray, List.set_cons_zero, List.set_cons_succ, i64_w, i32_w]
    rfl
  refine wpList_nil ?_
  have c1 := Blk.row_ b1 (sv (beganS wT 7 0) p2)
  have c2 := Blk.row_far b2 (by have h1 := b1.lt; have h2 := b2.ne_ b1 (by decide); exact h2) (sv (beganS wT 7 0) p2)
  have hBe := Below.row_ hB Sb1.out (sv (beganS wT 7 0) p2)
  generalize w5_.setRow w1_.heap.size (sv (beganS wT 7 0) p2) = we at c1 c2 hBe ⊢
  have k0 := sc0 c1
  have k1 := sc1 c1
  have k2 := c2.cell 0
  change we.cell? _ = some (.int .i64 2) at k0
  change we.cell? _ = some (.int .u64 7) at k1
  simp at k2
  go_wp2
  go_ret
  exact ⟨rfl, hBe⟩
theorem wakes_c {W : World} (hT : TabIs W) : Hid (Calls Tryd.prog 8 #[] W fun e w' => e = .returned (.bool true) ∧ Below W.heap.size W w') := Lib.hid (wakes_any W hT)
end Go.Proofs.YtiamkgoajkfofaaDoor.S
