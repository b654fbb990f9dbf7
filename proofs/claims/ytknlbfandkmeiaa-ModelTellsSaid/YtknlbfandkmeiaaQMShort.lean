/- What the row of this claim reaches. No condition. -/
import Derived.Test.YtknlbfandkmeiaaQMIter
import Derived.Test.YtknlbfandkmeiaaQReg
set_option linter.unusedVariables false
set_option linter.unusedSimpArgs false
namespace Go.Proofs.Ytknlbfandkmeiaa.M
open Go.RowKit Go.Proofs.YtknlbfandkmeiaaW.PrintWords Go.Proofs.YtknlbfandkmeiaaW.PrintLast Go.Proofs.YtknlbfandkmeiaaW.PrintMore
attribute [local go_sem] max2_int min2_int max_two min_two max_three min_three max_four min_four
def shr.T2 : Bool × List (List Nat × List Nat) := (true, [([], []), ([0], [0]), ([1], [1]), ([], []), ([3], [3]), ([], []), ([4, 5], [4, 5]), ([2, 6], [2, 6]), ([7, 7, 0, 1, 2, 3, 4, 5, 6, 7], [7])])
def shr.B2 : List Nat := [0, 1, 3, 0, 8, 0, 56, 127, 255]
theorem shr.tab2 : rtab .any (opsOf Try.f14 2) = shr.T2 := by kernel_rfl
theorem shr.bits2 : waitsOk shr.T2.2 shr.B2 = true := by kernel_rfl
theorem reads_of_C {W : World} {A : Option Addr} {l : List S51} (h : Kd.C k51 W A l.length l) : (l ≠ [] → ∃ ad, A = some ad ∧ ∀ j u, (rowOf l)[j]? = some u → W.cell? (ad.add j) = some u) := by
  intro hn
  obtain ⟨ad, e, hc⟩ := h.2.2 (by rcases l with _ | ⟨x, l⟩ <;> simp at hn ⊢)
  refine ⟨ad, e, fun j u hu => ?_⟩
  have hj : j < l.length * 6 := by rw [← rowOf_len]; exact (List.getElem?_eq_some_iff.1 hu).1
  obtain ⟨p, hp⟩ : ∃ p, l[j / 6]? = some p := ⟨_, List.getElem?_eq_getElem (by omega)⟩
  obtain ⟨c, _, hK, hcc⟩ := hc (j / 6) p hp
  obtain rfl := k51_open hK
  have ha := rowOf_at l (j / 6) p hp
  have h2 : (cellsOf p)[j % 6]? = some u := by
    rw [← ha, List.getElem?_take, if_pos (by omega), List.getElem?_drop, show j / 6 * 6 + j % 6 = j by omega]
    exact hu
  have := hcc (j % 6) u h2
  rwa [show j / 6 * k51.sz + j % 6 = j by show j / 6 * 6 + j % 6 = j; omega] at this
theorem own_le {w : World} {base : Nat} {e : TypeId} {size n m cap : Nat} {a : Addr} {xs : List Value} (h : w.ownsRow base e size (.slice (some a) m cap) n xs) : n ≤ cap := by
  rcases h.2 with ⟨h, _⟩ | ⟨g, c, cur, hv, _, _, h, _⟩
  · cases h
  · injection hv with _ _ h3
    omega
theorem Reads.of_C {W : World} {A : Option Addr} {l : List S51} (h : Kd.C k51 W A l.length l) : Reads W W.heap.size 6 A l.length (rowOf l) := by
  refine ⟨rowOf_len l, fun hn => ?_⟩
  obtain ⟨ad, e, hc⟩ := reads_of_C h (fun e => by subst e; simp at hn)
  refine ⟨ad, e, ?_, hc⟩
  have h0 := hc 0 _ (List.getElem?_eq_getElem (by rw [rowOf_len]; omega))
  have := block_lt_of_cell h0
  rwa [block_of_add] at this
set_option maxHeartbeats 4000000 in
set_option maxRecDepth 100000 in
theorem short_any (A0 : Option Addr) (c0 : Nat) (l0 : List S51) (w : World) (hr0 : Kd.C k51 w A0 l0.length l0) (hc0 : l0.length ≤ c0) :
    Calls Try.prog 14 #[.agg #[.slice A0 l0.length c0]] w fun e w' => ∃ g cap, e = .returned (.agg #[.slice (some ⟨g, 0, none⟩) (l0.take 129).length cap]) ∧ w'.ownsRow w.heap.size 51 6 (.slice (some ⟨g, 0, none⟩) ((l0.take 129).length + 1) cap) ((l0.take 129).length + 1) (rowOf (l0.take 129 ++ [⟨77, ⟨0, 0, 0, 0⟩, 0⟩])) ∧ Below w.heap.size w w' := by
  obtain ⟨i0, hi0, hz0, hz1, hz2⟩ := info_parts row_info
  obtain ⟨L, hL⟩ : ∃ L, l0.take 129 = L := ⟨_, rfl⟩
  have hLl : L.length ≤ 129 := by rw [← hL, List.length_take]; omega
  have hLn : L.length ≤ l0.length := by rw [← hL, List.length_take]; omega
  have hm : (if 129 < (l0.length : Int) then 129 else (l0.length : Int)) = (L.length : Int) := by
    rw [← hL, List.length_take]
    split <;> omega
  have hw1 : IntKind.i64.wrap ((L.length : Int) + 2) = (L.length : Int) + 2 := by rw [IntKind.wrap_i64]; omega
  have hLc : L.length ≤ c0 := by omega
  obtain ⟨W0, hW0⟩ : ∃ W, ((w.alloc (.cells #[.slice A0 l0.length c0] 24)).alloc (.cells #[.slice none 0 0] 24)) = W := ⟨_, rfl⟩
  have p0 : Blk W0 w.heap.size 24 #[.slice A0 l0.length c0] := by rw [← hW0]; exact (Blk.new w 24 _).alloc _
  have p1 : Blk W0 (w.heap.size + 1) 24 #[.slice none 0 0] := by rw [← hW0]; exact Blk.newAt (by simp)
  have hB0 : Below w.heap.size w W0 := by rw [← hW0]; exact keep_below_alloc _ (keep_below_alloc _ (Below.refl _ _))
  have hs0 : W0.heap.size = w.heap.size + 1 + 1 := by rw [← hW0]; simp
  have hC0 := Kd.C_below hr0 hB0
  have HC := Lib.hid (Kd.C_take (m := L.length) hC0 hLn)
  have hCL : l0.take L.length = L := by rw [← hL, List.length_take, List.take_eq_take_iff]; omega
  have HL := Lib.hid (And.intro hL hCL)
  rw [hL]
  clear hr0 hC0 hCL
  have k0 := p0.cell 0
  simp at k0
  go_enter Try.func14, Try.ntmps14
  go_upto_region 2 with fail
  clear hW0 hL
  refine start_ (n := 9) (S := (fun w' => w'.cell? ⟨w.heap.size, 0, none⟩ = some (.slice A0 l0.length c0))) (ds := []) #[false, false, false, false, false, false, false, false, false] (by kernel_rfl) rfl rfl k0 (fun hHeld => ?_)
  refine with_tabW shr.tab2 shr.bits2 (fun HT_ HW_ => ?_)
  refine pure_ (i := 0) (N := some 9) (v := ?_) (a' := ?_) #[true, false, false, false, false, false, false, false, false] rfl rfl (any_of HT_.out (by kernel_rfl)) (fun _ _ _ h => h) (Or.inl ⟨by rfl, ?_⟩) ?_ ?_
  rotate_left
  · intro w'
    go_simp
    with_reducible rfl
  rotate_left
  · simp only [Act.put, List.setIfInBounds_toArray, List.set_cons_zero, List.set_cons_succ, i64_w, i32_w]
    rfl
  refine pure_ (i := 1) (N := some 10) (v := ?_) (a' := ?_) #[true, true, false, false, false, false, false, false, false] rfl rfl (any_of HT_.out (by kernel_rfl)) (fun _ _ _ h => h) (Or.inl ⟨by rfl, ?_⟩) ?_ ?_
  rotate_left
  · intro w'
    go_simp
    with_reducible rfl
  rotate_left
  · simp only [Act.put, List.setIfInBounds_toArray, List.set_cons_zero, List.set_cons_succ, i64_w, i32_w]
    rfl
  refine pure_ (i := 3) (N := some 12) (v := ?_) (a' := ?_) #[true, true, false, true, false, false, false, false, false] rfl rfl (any_of HT_.out (by kernel_rfl)) (fun _ _ _ h => h) (Or.inl ⟨by rfl, ?_⟩) ?_ ?_
  rotate_left
  · intro w'
    go_simp
    with_reducible rfl
  rotate_left
  · simp only [Act.put, List.setIfInBounds_toArray, List.set_cons_zero, List.set_cons_succ, i64_w, i32_w]
    rfl
  refine take_ (i := 4) (N := some 13) (v := ?_) (a' := ?_) #[true, true, false, true, true, false, false, false, false] rfl rfl (take_ofW HT_.out HW_.out (by kernel_rfl)) (fun _ _ _ h => h) (Or.inl ⟨by rfl, ?_⟩) hHeld ?_ ?_
  rotate_left
  · rintro w' s0
    go_simp
    with_reducible rfl
  rotate_left
  · simp only [Act.put, List.setIfInBounds_toArray, List.set_cons_zero, List.set_cons_succ, i64_w, i32_w]
    rfl
  refine pure_ (i := 5) (N := some 14) (v := ?_) (a' := ?_) #[true, true, false, true, true, true, false, false, false] rfl rfl (any_of HT_.out (by kernel_rfl)) (fun _ _ _ h => h) (Or.inl ⟨by rfl, ?_⟩) ?_ ?_
  rotate_left
  · intro w'
    go_simp
    with_reducible rfl
  rotate_left
  · simp only [Act.put, List.setIfInBounds_toArray, List.set_cons_zero, List.set_cons_succ, i64_w, i32_w]
    rfl
  refine pure_ (i := 6) (N := some 15) (v := ?_) (a' := ?_) #[true, true, false, true, true, true, true, false, false] rfl rfl (any_of HT_.out (by kernel_rfl)) (fun _ _ _ h => h) (Or.inl ⟨by rfl, ?_⟩) ?_ ?_
  rotate_left
  · intro w'
    go_simp
    with_reducible rfl
  rotate_left
  · simp only [Act.put, List.setIfInBounds_toArray, List.set_cons_zero, List.set_cons_succ, i64_w, i32_w]
    rfl
  have hB := hHeld
  clear hHeld
  refine one_ (i := 2) (N := some 11) #[true, true, true, true, true, true, true, false, false] rfl rfl (one_of HT_.out (by kernel_rfl)) (by decide) (fun K hK => ?_)
  have hMk := run_make_own (P := Try.prog) W0.drew (w.heap.size + 1 + 1) 22 51 i0 _ 6 Try.underlying22 hi0 hz0 hz1 .i64 .i64 (L.length + 2) (by rw [hz2]; omega) (by unfold maxLen; omega) (by show w.heap.size + 1 + 1 ≤ W0.heap.size; omega)
  obtain ⟨w1, hr1, ho1, hg1⟩ := hMk
  refine event_step (by rfl) (w1 := w1) (v := .slice (some ⟨W0.heap.size, 0, none⟩) 0 (L.length + 2)) ?hr ?_
  case hr =>
    have hr2 : (Instr.makeSlice 22 (.int .i64 0) (.int .i64 ((L.length : Int) + 2))).run Try.prog W0.drew = .ok (.slice (some ⟨W0.heap.size, 0, none⟩) 0 (L.length + 2)) w1 := hr1
    simp [execOp, Act.eval, Act.put, hr2]
  clear hB
  have q0 : Blk w1 w.heap.size 24 #[.slice A0 l0.length c0] := Blk.grown (Blk.drew p0) hg1 (by simp)
  have q1 : Blk w1 (w.heap.size + 1) 24 #[.slice none 0 0] := Blk.grown (Blk.drew p1) hg1 (by simp)
  have hB1 : Below W0.heap.size W0 w1 := ⟨hg1.os, hg1.tape, hg1.output, hg1.size, fun k hk => hg1.block k hk (by simp)⟩
  have hC1 := Kd.C_below HC.out hB1
  have ho1' : w1.ownsRow (w.heap.size + 1 + 1) 51 6 (.slice (some ⟨W0.heap.size, 0, none⟩) 0 (L.length + 2)) 0 [] := ho1
  have hs1 : w.heap.size + 1 + 1 ≤ w1.heap.size := by have : W0.heap.size ≤ w1.heap.size := hg1.size; omega
  have hR := Reads.of_C (l := l0.take L.length) hC1
  rw [HL.out.2] at hR
  clear ho1 hr1
  refine hK.out _ _ (q0.cell 0) (fun hHeld => ?_)
  clear hK K
  refine norm_ (a' := ?_) ?_ ?_
  rotate_left
  · first | (show Act.put _ (some 11) _ = _; simp only [Act.put, List.setIfInBounds_toArray, List.set_cons_zero, List.set_cons_succ, i64_w, i32_w]; rfl) | with_reducible rfl
  refine one_ (i := 7) (N := some 16) #[true, true, true, true, true, true, true, true, false] rfl rfl (one_of HT_.out (by kernel_rfl)) (by decide) (fun K hK => ?_)
  refine step_append_any _ rfl (.tmp 11) (.tmp 15) 22 rfl (w.heap.size + 1 + 1) 51 i0 _ 6 48 Try.underlying22 hi0 hz0 hz1 hz2 rfl (by decide) (.slice (some ⟨W0.heap.size, 0, none⟩) 0 (L.length + 2)) 0 [] rfl ho1' _ A0 L.length c0 (rowOf L) rfl hR (rowOf_one _) (by unfold maxLen; omega) (by omega) hs1 ?_
  intro v2 w2 ho2 hg2 _
  rw [Nat.zero_add, List.nil_append] at ho2
  obtain ⟨A2, c2, rfl, hc2, hm2, _⟩ := C_of_row ho2
  have hne : w.heap.size < W0.heap.size ∧ w.heap.size + 1 < W0.heap.size := by omega
  have r0 : Blk w2 w.heap.size 24 #[.slice A0 l0.length c0] := Blk.grown q0 hg2 (by simp [Value.ownBlock]; omega)
  have r1 : Blk w2 (w.heap.size + 1) 24 #[.slice none 0 0] := Blk.grown q1 hg2 (by simp [Value.ownBlock]; omega)
  have hB2 : Below w.heap.size w w2 := Below.grown (keep_below hB0 hB1) hg2 (by omega) (fun k hk => by simp [Value.ownBlock] at hk; omega)
  have hs2 : w.heap.size + 1 + 1 ≤ w2.heap.size := Nat.le_trans hs1 hg2.size
  clear hR hC1 ho1' hg2 hg1 q0 q1 hHeld
  refine hK.out _ _ (r0.cell 0) (fun hHeld => ?_)
  clear hK K
  refine norm_ (a' := ?_) ?_ ?_
  rotate_left
  · first | (show Act.put _ (some 16) _ = _; simp only [Act.put, List.setIfInBounds_toArray, List.set_cons_zero, List.set_cons_succ, i64_w, i32_w]; rfl) | with_reducible rfl
  refine pure_ (i := 8) (N := some 4) (v := ?_) (a' := ?_) #[true, true, true, true, true, true, true, true, true] rfl rfl (any_of HT_.out (by kernel_rfl)) (fun _ _ _ h => h) (Or.inl ⟨by rfl, ?_⟩) ?_ ?_
  rotate_left
  · intro w'
    go_simp
    with_reducible rfl
  rotate_left
  · simp only [Act.put, List.setIfInBounds_toArray, List.set_cons_zero, List.set_cons_succ, i64_w, i32_w]
    rfl
  refine done_ (done_of HT_.out (by kernel_rfl)) ?_
  have f0 := r1.cell 0
  have f1 := r1.frozen 0
  simp at f0
  go_wp2_with (at_builtin; refine wpList_append_own_at _ rfl _ _ 22 rfl (w.heap.size + 1 + 1) 51 i0 _ 6 48 Try.underlying22 hi0 hz0 hz1 hz2 rfl (by decide) (.slice A2 L.length c2) L.length (rowOf L) rfl (ho2.alloc _) ⟨w2.heap.size, 0, none⟩ 1 1 [.int .u32 77, .int .i64 0, .int .i64 0, .int .i64 0, .int .i64 0, .int .i64 0] rfl rfl (cells_at w2 ⟨77, ⟨0, 0, 0, 0⟩, 0⟩) (by simp [Value.oneCell']) (by unfold maxLen; omega) (by omega) (by simp; omega) ?_; intro v3 w3 ho3 hg3 _ ha3; obtain ⟨g3, cap3, rfl⟩ := ownsRow_succ ho3; have z2 : L.length ≤ cap3 := Nat.le_of_succ_le (own_le ho3); have x1 := Blk.grown (r1.alloc (.cells #[.int .u32 77, .int .i64 0, .int .i64 0, .int .i64 0, .int .i64 0, .int .i64 0] 51)) hg3 (fun e => own_blk_ne ho2 r1 (by decide) e.symm); have y0 := x1.cell 0; have y1 := x1.frozen 0; simp at y0; clear ha3)
  have hB3 : Below w.heap.size w w3 := Below.grown (keep_below_alloc _ hB2) hg3 (by simp; omega) (fun k hk => by have := (ho2.lt k hk).1; omega)
  have hn3 := own_blk_ne ho3 x1 (by decide)
  have x2 : Blk (w3.setCell ⟨w.heap.size + 1, 0, none⟩ (.slice (some ⟨g3, 0, none⟩) L.length cap3)) (w.heap.size + 1) 24 #[.slice (some ⟨g3, 0, none⟩) L.length cap3] := by simpa using x1.set_ 0 (.slice (some ⟨g3, 0, none⟩) L.length cap3)
  refine bodyPost_ret (v := .agg #[.slice (some ⟨g3, 0, none⟩) L.length cap3]) (results_cell_row rfl _ _ (w.heap.size + 1) 24 #[.slice (some ⟨g3, 0, none⟩) L.length cap3] (0, 0) _ rfl x2 Try.underlying24 rfl (by kernel_rfl)) rfl ⟨g3, cap3, rfl, ?_, hB3.setCell (by show w.heap.size ≤ w.heap.size + 1; omega) _⟩
  rw [rowOf_snoc]
  exact own_mv (own_weaken ho3 (by omega)) fun k hk => Below.heap_setCell w3 ⟨w.heap.size + 1, 0, none⟩ _ k (fun e => hn3 (by rw [hk, e]))
theorem own_cut {w : World} {base : Nat} {g cap : Nat} {l : List S51} {x : S51} (h : w.ownsRow base 51 6 (.slice (some ⟨g, 0, none⟩) (l.length + 1) cap) (l.length + 1) (rowOf (l ++ [x]))) : w.ownsRow base 51 6 (.slice (some ⟨g, 0, none⟩) l.length cap) l.length (rowOf l) := by
  refine ⟨rowOf_len l, ?_⟩
  rcases h.2 with ⟨h, _⟩ | ⟨g', c, cur, hv, h1, h2, h3, h4, h5, h6⟩
  · cases h
  · injection hv with e1 _ e3
    injection e1 with e1
    injection e1 with e1 _ _
    subst e1 e3
    refine .inr ⟨_, _, cur, rfl, h1, h2, by omega, h4, h5, ?_⟩
    have := congrArg (List.take (l.length * 6)) h6
    rw [List.take_take, rowOf_append, List.take_left' (rowOf_len l), Nat.min_eq_left (by omega)] at this
    exact this
end Go.Proofs.Ytknlbfandkmeiaa.M
