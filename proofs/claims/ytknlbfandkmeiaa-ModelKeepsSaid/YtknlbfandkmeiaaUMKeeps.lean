/- What the row of this claim reaches. No condition. -/
import Derived.Test.YtknlbfandkmeiaaUMBack
set_option linter.unusedVariables false
set_option linter.unusedSimpArgs false
namespace Go.Proofs.Ytknlbfandkmeiaa.M
open Go.RowKit Go.Proofs.YtknlbfandkmeiaaW.PrintWords Go.Proofs.YtknlbfandkmeiaaW.PrintLast Go.Proofs.YtknlbfandkmeiaaW.PrintMore
theorem check_call {k : Nat} {L : List S51} {r : Int} (h : model_Check.f k L = some r) {W : World} {b : Nat} {A : Option Addr} {c : Nat} (h1 : OwnL W b A c L) :
    Hid (Calls Try.prog 24 #[.agg #[.slice A L.length c]] W fun e w' => e = .returned (.int .i64 r) ∧ Below W.heap.size W w') :=
  Lib.hid (model_Check.calls k A c L r W h1.C.2 h1.C.1 h)
theorem meets_call {k : Nat} {L M : List S51} {r x0 x1 x2 x3 : Int} (h : model_Meets.f k L x0 x1 x2 x3 = some (M, r)) {W : World} {b : Nat} {A : Option Addr} {c : Nat} (h1 : OwnL W b A c L) :
    Hid (Calls Try.prog 25 #[.agg #[.slice A L.length c], .agg #[.int .i64 x0, .int .i64 x1, .int .i64 x2, .int .i64 x3]] W fun e w' => ∃ A1 c1, e = .returned (.tuple #[.slice A1 M.length c1, .int .i64 r]) ∧ OwnL w' W.heap.size A1 c1 M ∧ Below W.heap.size W w') := by
  refine Lib.hid ((meets_any k A c L x0 x1 x2 x3 M r W h1.C.2 h1.C.1 h).mono ?_)
  rintro e w' ⟨v0, rfl, h0, hb⟩
  have ho := row_of_R h0
  obtain ⟨A1, c1, rfl, _, _, _⟩ := C_of_row ho
  exact ⟨A1, c1, rfl, ho, hb⟩
theorem key_call (x : S51) (k : S36) {b : Bool} (h : meetB k x = b) (W : World) : Hid (Calls Try.prog 29 #[.agg #[.int .i64 x.f1.f0, .int .i64 x.f1.f1, .int .i64 x.f1.f2, .int .i64 x.f1.f3], .agg #[.int .i64 k.f0, .int .i64 k.f1, .int .i64 k.f2, .int .i64 k.f3]] W fun e w' => e = .returned (.bool b) ∧ Below W.heap.size W w') := by
  have := meet_some k x
  rw [h] at this
  exact Lib.hid (key_Meets.calls x.f1.f0 x.f1.f1 x.f1.f2 x.f1.f3 k.f0 k.f1 k.f2 k.f3 b W this)
def kpr.T18 : Bool × List (List Nat × List Nat) := (true, [([], []), ([0], [0]), ([], []), ([2], [2]), ([1, 3], [1, 3]), ([4], [4]), ([5, 4], [5]), ([6], [6]), ([7, 6], [6, 7]), ([8, 6, 6], [6, 8]), ([9], [9]), ([9], [9]), ([11, 9], [9, 11]), ([10, 12, 9], [9, 10, 12]), ([13, 9], [9, 13]), ([14, 9], [9, 14]), ([9], [9]), ([16, 9], [9, 16]), ([15, 17, 9], [9, 15, 17]), ([9, 18, 6], [6, 9, 18]), ([6, 19], [6, 19])])
def kpr.B18 : List Nat := [0, 1, 0, 4, 15, 31, 63, 127, 255, 511, 1023, 1023, 3071, 8191, 16383, 32767, 1023, 66559, 262143, 524287, 1048575]
theorem kpr.tab18 : rtab .any (opsOf Try.f7 18) = kpr.T18 := by kernel_rfl
theorem kpr.bits18 : waitsOk kpr.T18.2 kpr.B18 = true := by kernel_rfl
set_option maxHeartbeats 8000000 in
set_option maxRecDepth 100000 in
theorem keeps_not (A0 : Option Addr) (c0 : Nat) (l0 T : List S51) (o v : S38) (w : World) (hr0 : Kd.C k51 w A0 l0.length l0) (hc0 : l0.length ≤ c0) (hT : l0.take 129 = T) (h1 : ∃ k, model_Apply.f k T 1 o.f0 o.f1 o.f2 o.f3.f0 o.f3.f1 o.f3.f2 o.f3.f3 o.f4 = some ([], 0, 0, [], 320)) (h2 : ∃ k, model_Check.f k T = some 320) :
    Calls Try.prog 7 #[.agg #[.slice A0 l0.length c0], .agg #[.int .i64 o.f0, .bool o.f1, .int .u32 o.f2, .int .i64 o.f3.f0, .int .i64 o.f3.f1, .int .i64 o.f3.f2, .int .i64 o.f3.f3, .int .i64 o.f4], .agg #[.int .i64 v.f0, .bool v.f1, .int .u32 v.f2, .int .i64 v.f3.f0, .int .i64 v.f3.f1, .int .i64 v.f3.f2, .int .i64 v.f3.f3, .int .i64 v.f4]] w fun e w' => e = .returned (.bool true) ∧ Below w.heap.size w w' := by
  obtain ⟨W0, hW0⟩ : ∃ W, (((w.alloc (.cells #[.slice A0 l0.length c0] 24)).alloc (.cells #[.int .i64 o.f0, .bool o.f1, .int .u32 o.f2, .int .i64 o.f3.f0, .int .i64 o.f3.f1, .int .i64 o.f3.f2, .int .i64 o.f3.f3, .int .i64 o.f4] 38)).alloc (.cells #[.int .i64 v.f0, .bool v.f1, .int .u32 v.f2, .int .i64 v.f3.f0, .int .i64 v.f3.f1, .int .i64 v.f3.f2, .int .i64 v.f3.f3, .int .i64 v.f4] 38)) = W := ⟨_, rfl⟩
  have p3 : Blk W0 w.heap.size 24 #[.slice A0 l0.length c0] := by rw [← hW0]; exact ((Blk.new w 24 _).alloc _).alloc _
  have p4 : Blk W0 (w.heap.size + 1) 38 #[.int .i64 o.f0, .bool o.f1, .int .u32 o.f2, .int .i64 o.f3.f0, .int .i64 o.f3.f1, .int .i64 o.f3.f2, .int .i64 o.f3.f3, .int .i64 o.f4] := by rw [← hW0]; exact Blk.alloc (Blk.newAt (by simp)) _
  have p5 : Blk W0 (w.heap.size + 1 + 1) 38 #[.int .i64 v.f0, .bool v.f1, .int .u32 v.f2, .int .i64 v.f3.f0, .int .i64 v.f3.f1, .int .i64 v.f3.f2, .int .i64 v.f3.f3, .int .i64 v.f4] := by rw [← hW0]; exact Blk.newAt (by simp)
  have hB0 : Below w.heap.size w W0 := by rw [← hW0]; exact keep_below_alloc _ (keep_below_alloc _ (keep_below_alloc _ (Below.refl _ _)))
  have hs0 : W0.heap.size = w.heap.size + 1 + 1 + 1 := by rw [← hW0]; simp
  have HW := Lib.hid hW0
  have HC := Lib.hid (Kd.C_below hr0 hB0)
  clear hW0 hr0
  go_enter Try.func7, Try.ntmps7
  go_upto_region 4 with (first
    | (go_at_call 13; rw [HW.out]; (with_reducible refine (wakes_call _).out.mono ?_); rintro e w1 ⟨rfl, hb1⟩; have q3 := p3.keep hb1; have q4 := p4.keep hb1; have q5 := p5.keep hb1; have hB1 := keep_below hB0 hb1; have g3 := q3.cell 0; simp at g3)
    | (go_at_call 14; (with_reducible refine (short_call hT (Kd.C_below HC.out hb1) hc0).out.mono ?_); rintro e w2 ⟨A1, c1, rfl, hO2, hb2⟩; have r3 := q3.keep hb2; have r4 := q4.keep hb2; have r5 := q5.keep hb2; have hB2 := keep_below hB1 hb2; have hs2 := hb1.size; clear g3; have g3 := r3.cell 0; have y3 := r3.frozen 0; simp at g3))
  have s3 : Blk (w2.setCell ⟨w.heap.size, 0, none⟩ (.slice A1 T.length c1)) w.heap.size 24 #[.slice A1 T.length c1] := by simpa using r3.set_ 0 (.slice A1 T.length c1)
  have s4 := r4.far (p := ⟨w.heap.size, 0, none⟩) (by simp) (.slice A1 T.length c1)
  have s5 := r5.far (p := ⟨w.heap.size, 0, none⟩) (by simp; omega) (.slice A1 T.length c1)
  have hB3 := hB2.setCell (p := ⟨w.heap.size, 0, none⟩) (Nat.le_refl _) (.slice A1 T.length c1)
  have hO3 := (hO2.far r3 (by decide) 0 (.slice A1 T.length c1)).weak (b' := w.heap.size + 1 + 1 + 1) (by omega)
  generalize (w2.setCell ⟨w.heap.size, 0, none⟩ (.slice A1 T.length c1)) = W3 at s3 s4 s5 hB3 hO3 ⊢
  clear hO2 r3 r4 r5 hB2 g3 y3 hb2 hb1 q3 q4 q5 hB1 hs2
  have g3 := s3.cell 0
  simp at g3
  have k0 := s4.cell 0
  have k1 := s4.cell 1
  have k2 := s4.cell 2
  have k3 := s4.cell 3
  have k4 := s4.cell 4
  have k5 := s4.cell 5
  have k6 := s4.cell 6
  have k7 := s4.cell 7
  simp at k0 k1 k2 k3 k4 k5 k6 k7
  obtain ⟨n1, h1⟩ := h1
  obtain ⟨n2, h2⟩ := h2
  have H1 := Lib.hid h1
  have H2 := Lib.hid h2
  clear h1 h2
  go_upto_region 5 with (go_at_call 21; (with_reducible refine (apply_call H1.out hO3).out.mono ?_); rintro e w5 ⟨A7, c7, A7', c7', rfl, O7, b7⟩; have hB5 := keep_below hB3 b7; have hO5 := hO3.below b7; have v3 := s3.keep b7)
  have v3' := (v3.alloc (.cells #[.slice A7 0 c7] 24)).alloc (.cells #[.int .i64 0, .int .u64 0, .slice A7' 0 c7'] 41)
  have hO6 := (hO5.alloc (.cells #[.slice A7 0 c7] 24)).alloc (.cells #[.int .i64 0, .int .u64 0, .slice A7' 0 c7'] 41)
  have hB6 := keep_below_alloc (.cells #[.int .i64 0, .int .u64 0, .slice A7' 0 c7'] 41) (keep_below_alloc (.cells #[.slice A7 0 c7] 24) hB5)
  generalize ((w5.alloc (.cells #[.slice A7 0 c7] 24)).alloc (.cells #[.int .i64 0, .int .u64 0, .slice A7' 0 c7'] 41)) = W6 at v3' hO6 hB6 ⊢
  clear g3
  have g3 := v3'.cell 0
  simp at g3
  go_wp2_with (go_at_call 24; (with_reducible refine (check_call H2.out hO6).out.mono ?_); rintro e w7 ⟨rfl, b8⟩)
  go_ret
  exact ⟨rfl, keep_below hB6 b8⟩
set_option maxHeartbeats 8000000 in
set_option maxRecDepth 100000 in
theorem keeps_refused (A0 : Option Addr) (c0 : Nat) (l0 T : List S51) (o v : S38) (w : World) (hr0 : Kd.C k51 w A0 l0.length l0) (hc0 : l0.length ≤ c0) (hT : l0.take 129 = T) (er : Int) (he : er ≠ 0) (h1 : ∃ k, model_Apply.f k T 1 o.f0 o.f1 o.f2 o.f3.f0 o.f3.f1 o.f3.f2 o.f3.f3 o.f4 = some (T, er, 0, [], 0)) (h2 : ∃ k, model_Check.f k T = some 0) (h3 : ∃ k, model_Same.f k T T = some true) :
    Calls Try.prog 7 #[.agg #[.slice A0 l0.length c0], .agg #[.int .i64 o.f0, .bool o.f1, .int .u32 o.f2, .int .i64 o.f3.f0, .int .i64 o.f3.f1, .int .i64 o.f3.f2, .int .i64 o.f3.f3, .int .i64 o.f4], .agg #[.int .i64 v.f0, .bool v.f1, .int .u32 v.f2, .int .i64 v.f3.f0, .int .i64 v.f3.f1, .int .i64 v.f3.f2, .int .i64 v.f3.f3, .int .i64 v.f4]] w fun e w' => e = .returned (.bool true) ∧ Below w.heap.size w w' := by
  obtain ⟨W0, hW0⟩ : ∃ W, (((w.alloc (.cells #[.slice A0 l0.length c0] 24)).alloc (.cells #[.int .i64 o.f0, .bool o.f1, .int .u32 o.f2, .int .i64 o.f3.f0, .int .i64 o.f3.f1, .int .i64 o.f3.f2, .int .i64 o.f3.f3, .int .i64 o.f4] 38)).alloc (.cells #[.int .i64 v.f0, .bool v.f1, .int .u32 v.f2, .int .i64 v.f3.f0, .int .i64 v.f3.f1, .int .i64 v.f3.f2, .int .i64 v.f3.f3, .int .i64 v.f4] 38)) = W := ⟨_, rfl⟩
  have p3 : Blk W0 w.heap.size 24 #[.slice A0 l0.length c0] := by rw [← hW0]; exact ((Blk.new w 24 _).alloc _).alloc _
  have p4 : Blk W0 (w.heap.size + 1) 38 #[.int .i64 o.f0, .bool o.f1, .int .u32 o.f2, .int .i64 o.f3.f0, .int .i64 o.f3.f1, .int .i64 o.f3.f2, .int .i64 o.f3.f3, .int .i64 o.f4] := by rw [← hW0]; exact Blk.alloc (Blk.newAt (by simp)) _
  have p5 : Blk W0 (w.heap.size + 1 + 1) 38 #[.int .i64 v.f0, .bool v.f1, .int .u32 v.f2, .int .i64 v.f3.f0, .int .i64 v.f3.f1, .int .i64 v.f3.f2, .int .i64 v.f3.f3, .int .i64 v.f4] := by rw [← hW0]; exact Blk.newAt (by simp)
  have hB0 : Below w.heap.size w W0 := by rw [← hW0]; exact keep_below_alloc _ (keep_below_alloc _ (keep_below_alloc _ (Below.refl _ _)))
  have hs0 : W0.heap.size = w.heap.size + 1 + 1 + 1 := by rw [← hW0]; simp
  have HW := Lib.hid hW0
  have HC := Lib.hid (Kd.C_below hr0 hB0)
  clear hW0 hr0
  go_enter Try.func7, Try.ntmps7
  go_upto_region 4 with (first
    | (go_at_call 13; rw [HW.out]; (with_reducible refine (wakes_call _).out.mono ?_); rintro e w1 ⟨rfl, hb1⟩; have q3 := p3.keep hb1; have q4 := p4.keep hb1; have q5 := p5.keep hb1; have hB1 := keep_below hB0 hb1; have g3 := q3.cell 0; simp at g3)
    | (go_at_call 14; (with_reducible refine (short_call hT (Kd.C_below HC.out hb1) hc0).out.mono ?_); rintro e w2 ⟨A1, c1, rfl, hO2, hb2⟩; have r3 := q3.keep hb2; have r4 := q4.keep hb2; have r5 := q5.keep hb2; have hB2 := keep_below hB1 hb2; have hs2 := hb1.size; clear g3; have g3 := r3.cell 0; have y3 := r3.frozen 0; simp at g3))
  have s3 : Blk (w2.setCell ⟨w.heap.size, 0, none⟩ (.slice A1 T.length c1)) w.heap.size 24 #[.slice A1 T.length c1] := by simpa using r3.set_ 0 (.slice A1 T.length c1)
  have s4 := r4.far (p := ⟨w.heap.size, 0, none⟩) (by simp) (.slice A1 T.length c1)
  have s5 := r5.far (p := ⟨w.heap.size, 0, none⟩) (by simp; omega) (.slice A1 T.length c1)
  have hB3 := hB2.setCell (p := ⟨w.heap.size, 0, none⟩) (Nat.le_refl _) (.slice A1 T.length c1)
  have hO3 := (hO2.far r3 (by decide) 0 (.slice A1 T.length c1)).weak (b' := w.heap.size + 1 + 1 + 1) (by omega)
  generalize (w2.setCell ⟨w.heap.size, 0, none⟩ (.slice A1 T.length c1)) = W3 at s3 s4 s5 hB3 hO3 ⊢
  clear hO2 r3 r4 r5 hB2 g3 y3 hb2 hb1 q3 q4 q5 hB1 hs2
  have g3 := s3.cell 0
  simp at g3
  have k0 := s4.cell 0
  have k1 := s4.cell 1
  have k2 := s4.cell 2
  have k3 := s4.cell 3
  have k4 := s4.cell 4
  have k5 := s4.cell 5
  have k6 := s4.cell 6
  have k7 := s4.cell 7
  simp at k0 k1 k2 k3 k4 k5 k6 k7
  obtain ⟨n1, h1⟩ := h1
  obtain ⟨n2, h2⟩ := h2
  obtain ⟨n3, h3⟩ := h3
  have H1 := Lib.hid h1
  have H2 := Lib.hid h2
  have H3 := Lib.hid h3
  clear h1 h2 h3
  have z1 : (er != 0) = true := bne_iff_ne.mpr he
  have z2 : (er == 0) = false := beq_eq_false_iff_ne.mpr he
  clear he
  go_upto_region 5 with (go_at_call 21; (with_reducible refine (apply_call H1.out hO3).out.mono ?_); rintro e w5 ⟨A7, c7, A7', c7', rfl, O7, b7⟩; have hB5 := keep_below hB3 b7; have hO5 := hO3.below b7; have v3 := s3.keep b7)
  have v7 := (Blk.new w5 24 #[.slice A7 T.length c7]).alloc (.cells #[.int .i64 er, .int .u64 0, .slice A7' 0 c7'] 41)
  have v8 : Blk ((w5.alloc (.cells #[.slice A7 T.length c7] 24)).alloc (.cells #[.int .i64 er, .int .u64 0, .slice A7' 0 c7'] 41)) (w5.heap.size + 1) 41 #[.int .i64 er, .int .u64 0, .slice A7' 0 c7'] := Blk.newAt (by simp)
  have v3' := (v3.alloc (.cells #[.slice A7 T.length c7] 24)).alloc (.cells #[.int .i64 er, .int .u64 0, .slice A7' 0 c7'] 41)
  have hO6 := (hO5.alloc (.cells #[.slice A7 T.length c7] 24)).alloc (.cells #[.int .i64 er, .int .u64 0, .slice A7' 0 c7'] 41)
  have hN6 := (O7.alloc (.cells #[.slice A7 T.length c7] 24)).alloc (.cells #[.int .i64 er, .int .u64 0, .slice A7' 0 c7'] 41)
  have hBW6 := keep_below_alloc (.cells #[.int .i64 er, .int .u64 0, .slice A7' 0 c7'] 41) (keep_below_alloc (.cells #[.slice A7 T.length c7] 24) hB5)
  generalize ((w5.alloc (.cells #[.slice A7 T.length c7] 24)).alloc (.cells #[.int .i64 er, .int .u64 0, .slice A7' 0 c7'] 41)) = W6 at v7 v8 v3' hO6 hN6 hBW6 ⊢
  clear g3
  have g3 := v3'.cell 0
  have g7 := v7.cell 0
  have a0 := v8.cell 0
  have a1 := v8.cell 1
  have a2 := v8.cell 2
  simp at g3 g7 a0 a1 a2
  go_wp2_with (first
    | (go_at_call 24; (with_reducible refine (check_call H2.out hN6).out.mono ?_); rintro e w7 ⟨rfl, b8⟩; have x3 := v3'.keep b8; have x7 := v7.keep b8; have x8 := v8.keep b8; have hO7 := hO6.below b8; have hN7 := hN6.below b8; have hB7 := keep_below hBW6 b8; clear g3 g7 a0 a1 a2; have g3 := x3.cell 0; have g7 := x7.cell 0; have a0 := x8.cell 0; have a1 := x8.cell 1; have a2 := x8.cell 2; simp at g3 g7 a0 a1 a2)
    | (go_at_call 23; (with_reducible refine (same_call H3.out hO7 hN7).out.mono ?_); rintro e w8 ⟨rfl, b9⟩; have y8 := x8.keep b9; have hB8 := keep_below hB7 b9; clear g3 g7 a0 a1 a2; have a0 := y8.cell 0; have a1 := y8.cell 1; have a2 := y8.cell 2; simp at a0 a1 a2))
  go_ret
  exact ⟨rfl, hB8⟩
set_option maxHeartbeats 8000000 in
set_option maxRecDepth 100000 in
theorem keeps_nobox4 (A0 : Option Addr) (c0 : Nat) (l0 T : List S51) (o v : S38) (w : World) (hr0 : Kd.C k51 w A0 l0.length l0) (hc0 : l0.length ≤ c0) (hT : l0.take 129 = T) (N : List S51) (R : List S51) (h1 : ∃ k, model_Apply.f k T 1 o.f0 o.f1 o.f2 o.f3.f0 o.f3.f1 o.f3.f2 o.f3.f3 o.f4 = some (N, 0, 0, R, 0)) (h2 : ∃ k, model_Check.f k N = some 0) (h3 : ∃ k, model_Same.f k T N = some true) (h4 : o.f0 = 4) (h5 : ∃ k, model_Meets.f k N v.f3.f0 v.f3.f1 v.f3.f2 v.f3.f3 = some ([], 314)) :
    Calls Try.prog 7 #[.agg #[.slice A0 l0.length c0], .agg #[.int .i64 o.f0, .bool o.f1, .int .u32 o.f2, .int .i64 o.f3.f0, .int .i64 o.f3.f1, .int .i64 o.f3.f2, .int .i64 o.f3.f3, .int .i64 o.f4], .agg #[.int .i64 v.f0, .bool v.f1, .int .u32 v.f2, .int .i64 v.f3.f0, .int .i64 v.f3.f1, .int .i64 v.f3.f2, .int .i64 v.f3.f3, .int .i64 v.f4]] w fun e w' => e = .returned (.bool true) ∧ Below w.heap.size w w' := by
  have H4 := Lib.hid h4
  clear h4
  obtain ⟨W0, hW0⟩ : ∃ W, (((w.alloc (.cells #[.slice A0 l0.length c0] 24)).alloc (.cells #[.int .i64 o.f0, .bool o.f1, .int .u32 o.f2, .int .i64 o.f3.f0, .int .i64 o.f3.f1, .int .i64 o.f3.f2, .int .i64 o.f3.f3, .int .i64 o.f4] 38)).alloc (.cells #[.int .i64 v.f0, .bool v.f1, .int .u32 v.f2, .int .i64 v.f3.f0, .int .i64 v.f3.f1, .int .i64 v.f3.f2, .int .i64 v.f3.f3, .int .i64 v.f4] 38)) = W := ⟨_, rfl⟩
  have p3 : Blk W0 w.heap.size 24 #[.slice A0 l0.length c0] := by rw [← hW0]; exact ((Blk.new w 24 _).alloc _).alloc _
  have p4 : Blk W0 (w.heap.size + 1) 38 #[.int .i64 o.f0, .bool o.f1, .int .u32 o.f2, .int .i64 o.f3.f0, .int .i64 o.f3.f1, .int .i64 o.f3.f2, .int .i64 o.f3.f3, .int .i64 o.f4] := by rw [← hW0]; exact Blk.alloc (Blk.newAt (by simp)) _
  have p5 : Blk W0 (w.heap.size + 1 + 1) 38 #[.int .i64 v.f0, .bool v.f1, .int .u32 v.f2, .int .i64 v.f3.f0, .int .i64 v.f3.f1, .int .i64 v.f3.f2, .int .i64 v.f3.f3, .int .i64 v.f4] := by rw [← hW0]; exact Blk.newAt (by simp)
  have hB0 : Below w.heap.size w W0 := by rw [← hW0]; exact keep_below_alloc _ (keep_below_alloc _ (keep_below_alloc _ (Below.refl _ _)))
  have hs0 : W0.heap.size = w.heap.size + 1 + 1 + 1 := by rw [← hW0]; simp
  have HW := Lib.hid hW0
  have HC := Lib.hid (Kd.C_below hr0 hB0)
  clear hW0 hr0
  go_enter Try.func7, Try.ntmps7
  go_upto_region 4 with (first
    | (go_at_call 13; rw [HW.out]; (with_reducible refine (wakes_call _).out.mono ?_); rintro e w1 ⟨rfl, hb1⟩; have q3 := p3.keep hb1; have q4 := p4.keep hb1; have q5 := p5.keep hb1; have hB1 := keep_below hB0 hb1; have g3 := q3.cell 0; simp at g3)
    | (go_at_call 14; (with_reducible refine (short_call hT (Kd.C_below HC.out hb1) hc0).out.mono ?_); rintro e w2 ⟨A1, c1, rfl, hO2, hb2⟩; have r3 := q3.keep hb2; have r4 := q4.keep hb2; have r5 := q5.keep hb2; have hB2 := keep_below hB1 hb2; have hs2 := hb1.size; clear g3; have g3 := r3.cell 0; have y3 := r3.frozen 0; simp at g3))
  have s3 : Blk (w2.setCell ⟨w.heap.size, 0, none⟩ (.slice A1 T.length c1)) w.heap.size 24 #[.slice A1 T.length c1] := by simpa using r3.set_ 0 (.slice A1 T.length c1)
  have s4 := r4.far (p := ⟨w.heap.size, 0, none⟩) (by simp) (.slice A1 T.length c1)
  have s5 := r5.far (p := ⟨w.heap.size, 0, none⟩) (by simp; omega) (.slice A1 T.length c1)
  have hB3 := hB2.setCell (p := ⟨w.heap.size, 0, none⟩) (Nat.le_refl _) (.slice A1 T.length c1)
  have hO3 := (hO2.far r3 (by decide) 0 (.slice A1 T.length c1)).weak (b' := w.heap.size + 1 + 1 + 1) (by omega)
  generalize (w2.setCell ⟨w.heap.size, 0, none⟩ (.slice A1 T.length c1)) = W3 at s3 s4 s5 hB3 hO3 ⊢
  clear hO2 r3 r4 r5 hB2 g3 y3 hb2 hb1 q3 q4 q5 hB1 hs2
  have g3 := s3.cell 0
  simp at g3
  have k0 := s4.cell 0
  have k1 := s4.cell 1
  have k2 := s4.cell 2
  have k3 := s4.cell 3
  have k4 := s4.cell 4
  have k5 := s4.cell 5
  have k6 := s4.cell 6
  have k7 := s4.cell 7
  simp at k0 k1 k2 k3 k4 k5 k6 k7
  obtain ⟨n1, h1⟩ := h1
  obtain ⟨n2, h2⟩ := h2
  have H1 := Lib.hid h1
  have H2 := Lib.hid h2
  clear h1 h2
  obtain ⟨n3, h3⟩ := h3
  have H3 := Lib.hid h3
  clear h3
  have z4 : (o.f0 == 4) = true := beq_iff_eq.mpr H4.out
  go_upto_region 5 with (go_at_call 21; (with_reducible refine (apply_call H1.out hO3).out.mono ?_); rintro e w5 ⟨A7, c7, A7', c7', rfl, O7, b7⟩; have hB5 := keep_below hB3 b7; have hO5 := hO3.below b7; have v3 := s3.keep b7; have v4 := s4.keep b7; have v5 := s5.keep b7)
  have v7 := (Blk.new w5 24 #[.slice A7 N.length c7]).alloc (.cells #[.int .i64 0, .int .u64 0, .slice A7' R.length c7'] 41)
  have v8 : Blk ((w5.alloc (.cells #[.slice A7 N.length c7] 24)).alloc (.cells #[.int .i64 0, .int .u64 0, .slice A7' R.length c7'] 41)) (w5.heap.size + 1) 41 #[.int .i64 0, .int .u64 0, .slice A7' R.length c7'] := Blk.newAt (by simp)
  have v3' := (v3.alloc (.cells #[.slice A7 N.length c7] 24)).alloc (.cells #[.int .i64 0, .int .u64 0, .slice A7' R.length c7'] 41)
  have v4' := (v4.alloc (.cells #[.slice A7 N.length c7] 24)).alloc (.cells #[.int .i64 0, .int .u64 0, .slice A7' R.length c7'] 41)
  have v5' := (v5.alloc (.cells #[.slice A7 N.length c7] 24)).alloc (.cells #[.int .i64 0, .int .u64 0, .slice A7' R.length c7'] 41)
  have hO6 := (hO5.alloc (.cells #[.slice A7 N.length c7] 24)).alloc (.cells #[.int .i64 0, .int .u64 0, .slice A7' R.length c7'] 41)
  have hN6 := (O7.alloc (.cells #[.slice A7 N.length c7] 24)).alloc (.cells #[.int .i64 0, .int .u64 0, .slice A7' R.length c7'] 41)
  have hBW6 := keep_below_alloc (.cells #[.int .i64 0, .int .u64 0, .slice A7' R.length c7'] 41) (keep_below_alloc (.cells #[.slice A7 N.length c7] 24) hB5)
  generalize ((w5.alloc (.cells #[.slice A7 N.length c7] 24)).alloc (.cells #[.int .i64 0, .int .u64 0, .slice A7' R.length c7'] 41)) = W6 at v7 v8 v3' v4' v5' hO6 hN6 hBW6 ⊢
  clear g3 k0 k1 k2 k3 k4 k5 k6 k7 s3 s4 s5 hO3 hB3 v3 v4 v5 hO5 hB5 O7 b7
  have g3 := v3'.cell 0
  have g7 := v7.cell 0
  have a0 := v8.cell 0
  have k0 := v4'.cell 0
  simp at g3 g7 a0 k0
  go_upto_region 9 with (first
    | (go_at_call 24; (with_reducible refine (check_call H2.out hN6).out.mono ?_); rintro e w7 ⟨rfl, b8⟩; have x3 := v3'.keep b8; have x4 := v4'.keep b8; have x5 := v5'.keep b8; have x7 := v7.keep b8; have x8 := v8.keep b8; have hO7 := hO6.below b8; have hN7 := hN6.below b8; have hB7 := keep_below hBW6 b8; clear g3 g7 a0 k0; have g3 := x3.cell 0; have g7 := x7.cell 0; have a0 := x8.cell 0; have k0 := x4.cell 0; simp at g3 g7 a0 k0)
    | (go_at_call 23; (with_reducible refine (same_call H3.out hO7 hN7).out.mono ?_); rintro e w8 ⟨rfl, b9⟩; have y3 := x3.keep b9; have y4 := x4.keep b9; have y5 := x5.keep b9; have y7 := x7.keep b9; have y8 := x8.keep b9; have hO8 := hO7.below b9; have hN8 := hN7.below b9; have hB8 := keep_below hB7 b9))
  clear g3 g7 a0 k0
  clear x3 x4 x5 x7 x8 hO7 hN7 hB7 v3' v4' v5' v7 v8 hO6 hN6 hBW6
  have a0 := y8.cell 0
  have g7 := y7.cell 0
  have j3 := y5.cell 3
  have j4 := y5.cell 4
  have j5 := y5.cell 5
  have j6 := y5.cell 6
  simp at a0 g7 j3 j4 j5 j6
  obtain ⟨n5, h5⟩ := h5
  have H5 := Lib.hid h5
  clear h5
  go_wp2_with (go_at_call 25; (with_reducible refine (meets_call H5.out hN8).out.mono ?_); rintro e w9 ⟨A10, c10, rfl, O10, b10⟩)
  go_ret
  exact ⟨rfl, keep_below hB8 b10⟩
set_option maxHeartbeats 8000000 in
set_option maxRecDepth 100000 in
theorem keeps_nobox (A0 : Option Addr) (c0 : Nat) (l0 T : List S51) (o v : S38) (w : World) (hr0 : Kd.C k51 w A0 l0.length l0) (hc0 : l0.length ≤ c0) (hT : l0.take 129 = T) (N : List S51) (h1 : ∃ k, model_Apply.f k T 1 o.f0 o.f1 o.f2 o.f3.f0 o.f3.f1 o.f3.f2 o.f3.f3 o.f4 = some (N, 0, 0, [], 0)) (h2 : ∃ k, model_Check.f k N = some 0) (h4 : ¬ o.f0 = 4) (h5 : ∃ k, model_Meets.f k N v.f3.f0 v.f3.f1 v.f3.f2 v.f3.f3 = some ([], 314)) :
    Calls Try.prog 7 #[.agg #[.slice A0 l0.length c0], .agg #[.int .i64 o.f0, .bool o.f1, .int .u32 o.f2, .int .i64 o.f3.f0, .int .i64 o.f3.f1, .int .i64 o.f3.f2, .int .i64 o.f3.f3, .int .i64 o.f4], .agg #[.int .i64 v.f0, .bool v.f1, .int .u32 v.f2, .int .i64 v.f3.f0, .int .i64 v.f3.f1, .int .i64 v.f3.f2, .int .i64 v.f3.f3, .int .i64 v.f4]] w fun e w' => e = .returned (.bool true) ∧ Below w.heap.size w w' := by
  have H4 := Lib.hid h4
  clear h4
  obtain ⟨W0, hW0⟩ : ∃ W, (((w.alloc (.cells #[.slice A0 l0.length c0] 24)).alloc (.cells #[.int .i64 o.f0, .bool o.f1, .int .u32 o.f2, .int .i64 o.f3.f0, .int .i64 o.f3.f1, .int .i64 o.f3.f2, .int .i64 o.f3.f3, .int .i64 o.f4] 38)).alloc (.cells #[.int .i64 v.f0, .bool v.f1, .int .u32 v.f2, .int .i64 v.f3.f0, .int .i64 v.f3.f1, .int .i64 v.f3.f2, .int .i64 v.f3.f3, .int .i64 v.f4] 38)) = W := ⟨_, rfl⟩
  have p3 : Blk W0 w.heap.size 24 #[.slice A0 l0.length c0] := by rw [← hW0]; exact ((Blk.new w 24 _).alloc _).alloc _
  have p4 : Blk W0 (w.heap.size + 1) 38 #[.int .i64 o.f0, .bool o.f1, .int .u32 o.f2, .int .i64 o.f3.f0, .int .i64 o.f3.f1, .int .i64 o.f3.f2, .int .i64 o.f3.f3, .int .i64 o.f4] := by rw [← hW0]; exact Blk.alloc (Blk.newAt (by simp)) _
  have p5 : Blk W0 (w.heap.size + 1 + 1) 38 #[.int .i64 v.f0, .bool v.f1, .int .u32 v.f2, .int .i64 v.f3.f0, .int .i64 v.f3.f1, .int .i64 v.f3.f2, .int .i64 v.f3.f3, .int .i64 v.f4] := by rw [← hW0]; exact Blk.newAt (by simp)
  have hB0 : Below w.heap.size w W0 := by rw [← hW0]; exact keep_below_alloc _ (keep_below_alloc _ (keep_below_alloc _ (Below.refl _ _)))
  have hs0 : W0.heap.size = w.heap.size + 1 + 1 + 1 := by rw [← hW0]; simp
  have HW := Lib.hid hW0
  have HC := Lib.hid (Kd.C_below hr0 hB0)
  clear hW0 hr0
  go_enter Try.func7, Try.ntmps7
  go_upto_region 4 with (first
    | (go_at_call 13; rw [HW.out]; (with_reducible refine (wakes_call _).out.mono ?_); rintro e w1 ⟨rfl, hb1⟩; have q3 := p3.keep hb1; have q4 := p4.keep hb1; have q5 := p5.keep hb1; have hB1 := keep_below hB0 hb1; have g3 := q3.cell 0; simp at g3)
    | (go_at_call 14; (with_reducible refine (short_call hT (Kd.C_below HC.out hb1) hc0).out.mono ?_); rintro e w2 ⟨A1, c1, rfl, hO2, hb2⟩; have r3 := q3.keep hb2; have r4 := q4.keep hb2; have r5 := q5.keep hb2; have hB2 := keep_below hB1 hb2; have hs2 := hb1.size; clear g3; have g3 := r3.cell 0; have y3 := r3.frozen 0; simp at g3))
  have s3 : Blk (w2.setCell ⟨w.heap.size, 0, none⟩ (.slice A1 T.length c1)) w.heap.size 24 #[.slice A1 T.length c1] := by simpa using r3.set_ 0 (.slice A1 T.length c1)
  have s4 := r4.far (p := ⟨w.heap.size, 0, none⟩) (by simp) (.slice A1 T.length c1)
  have s5 := r5.far (p := ⟨w.heap.size, 0, none⟩) (by simp; omega) (.slice A1 T.length c1)
  have hB3 := hB2.setCell (p := ⟨w.heap.size, 0, none⟩) (Nat.le_refl _) (.slice A1 T.length c1)
  have hO3 := (hO2.far r3 (by decide) 0 (.slice A1 T.length c1)).weak (b' := w.heap.size + 1 + 1 + 1) (by omega)
  generalize (w2.setCell ⟨w.heap.size, 0, none⟩ (.slice A1 T.length c1)) = W3 at s3 s4 s5 hB3 hO3 ⊢
  clear hO2 r3 r4 r5 hB2 g3 y3 hb2 hb1 q3 q4 q5 hB1 hs2
  have g3 := s3.cell 0
  simp at g3
  have k0 := s4.cell 0
  have k1 := s4.cell 1
  have k2 := s4.cell 2
  have k3 := s4.cell 3
  have k4 := s4.cell 4
  have k5 := s4.cell 5
  have k6 := s4.cell 6
  have k7 := s4.cell 7
  simp at k0 k1 k2 k3 k4 k5 k6 k7
  obtain ⟨n1, h1⟩ := h1
  obtain ⟨n2, h2⟩ := h2
  have H1 := Lib.hid h1
  have H2 := Lib.hid h2
  clear h1 h2
  have z4 : (o.f0 == 4) = false := beq_eq_false_iff_ne.mpr H4.out
  go_upto_region 5 with (go_at_call 21; (with_reducible refine (apply_call H1.out hO3).out.mono ?_); rintro e w5 ⟨A7, c7, A7', c7', rfl, O7, b7⟩; have hB5 := keep_below hB3 b7; have hO5 := hO3.below b7; have v3 := s3.keep b7; have v4 := s4.keep b7; have v5 := s5.keep b7)
  have v7 := (Blk.new w5 24 #[.slice A7 N.length c7]).alloc (.cells #[.int .i64 0, .int .u64 0, .slice A7' 0 c7'] 41)
  have v8 : Blk ((w5.alloc (.cells #[.slice A7 N.length c7] 24)).alloc (.cells #[.int .i64 0, .int .u64 0, .slice A7' 0 c7'] 41)) (w5.heap.size + 1) 41 #[.int .i64 0, .int .u64 0, .slice A7' 0 c7'] := Blk.newAt (by simp)
  have v3' := (v3.alloc (.cells #[.slice A7 N.length c7] 24)).alloc (.cells #[.int .i64 0, .int .u64 0, .slice A7' 0 c7'] 41)
  have v4' := (v4.alloc (.cells #[.slice A7 N.length c7] 24)).alloc (.cells #[.int .i64 0, .int .u64 0, .slice A7' 0 c7'] 41)
  have v5' := (v5.alloc (.cells #[.slice A7 N.length c7] 24)).alloc (.cells #[.int .i64 0, .int .u64 0, .slice A7' 0 c7'] 41)
  have hO6 := (hO5.alloc (.cells #[.slice A7 N.length c7] 24)).alloc (.cells #[.int .i64 0, .int .u64 0, .slice A7' 0 c7'] 41)
  have hN6 := (O7.alloc (.cells #[.slice A7 N.length c7] 24)).alloc (.cells #[.int .i64 0, .int .u64 0, .slice A7' 0 c7'] 41)
  have hBW6 := keep_below_alloc (.cells #[.int .i64 0, .int .u64 0, .slice A7' 0 c7'] 41) (keep_below_alloc (.cells #[.slice A7 N.length c7] 24) hB5)
  generalize ((w5.alloc (.cells #[.slice A7 N.length c7] 24)).alloc (.cells #[.int .i64 0, .int .u64 0, .slice A7' 0 c7'] 41)) = W6 at v7 v8 v3' v4' v5' hO6 hN6 hBW6 ⊢
  clear g3 k0 k1 k2 k3 k4 k5 k6 k7 s3 s4 s5 hO3 hB3 v3 v4 v5 hO5 hB5 O7 b7
  have g3 := v3'.cell 0
  have g7 := v7.cell 0
  have a0 := v8.cell 0
  have k0 := v4'.cell 0
  simp at g3 g7 a0 k0
  go_upto_region 9 with (go_at_call 24; (with_reducible refine (check_call H2.out hN6).out.mono ?_); rintro e w7 ⟨rfl, b8⟩; have x3 := v3'.keep b8; have x4 := v4'.keep b8; have x5 := v5'.keep b8; have x7 := v7.keep b8; have x8 := v8.keep b8; have hO7 := hO6.below b8; have hN7 := hN6.below b8; have hB7 := keep_below hBW6 b8; clear g3 g7 a0 k0; have g3 := x3.cell 0; have g7 := x7.cell 0; have a0 := x8.cell 0; have k0 := x4.cell 0; simp at g3 g7 a0 k0)
  have y3 := x3
  have y4 := x4
  have y5 := x5
  have y7 := x7
  have y8 := x8
  have hO8 := hO7
  have hN8 := hN7
  have hB8 := hB7
  clear g3 g7 a0 k0
  clear x3 x4 x5 x7 x8 hO7 hN7 hB7 v3' v4' v5' v7 v8 hO6 hN6 hBW6
  have a0 := y8.cell 0
  have g7 := y7.cell 0
  have j3 := y5.cell 3
  have j4 := y5.cell 4
  have j5 := y5.cell 5
  have j6 := y5.cell 6
  simp at a0 g7 j3 j4 j5 j6
  obtain ⟨n5, h5⟩ := h5
  have H5 := Lib.hid h5
  clear h5
  go_wp2_with (go_at_call 25; (with_reducible refine (meets_call H5.out hN8).out.mono ?_); rintro e w9 ⟨A10, c10, rfl, O10, b10⟩)
  go_ret
  exact ⟨rfl, keep_below hB8 b10⟩
attribute [local go_sem high] eqA51
structure KSt (w : World) (g3 g4 g5 g7 : Nat) (A1 A7 A10 : Option Addr) (c1 c7 c10 : Nat) (T N L : List S51) (o v : S38) (W : World) : Prop where
  b3 : Blk W g3 24 #[.slice A1 T.length c1]
  b4 : Blk W g4 38 #[.int .i64 o.f0, .bool o.f1, .int .u32 o.f2, .int .i64 o.f3.f0, .int .i64 o.f3.f1, .int .i64 o.f3.f2, .int .i64 o.f3.f3, .int .i64 o.f4]
  b5 : Blk W g5 38 #[.int .i64 v.f0, .bool v.f1, .int .u32 v.f2, .int .i64 v.f3.f0, .int .i64 v.f3.f1, .int .i64 v.f3.f2, .int .i64 v.f3.f3, .int .i64 v.f4]
  b7 : Blk W g7 24 #[.slice A7 N.length c7]
  t : OwnL W 0 A1 c1 T
  n : OwnL W 0 A7 c7 N
  l : OwnL W 0 A10 c10 L
  hB : Below w.heap.size w W
theorem KSt.below {w : World} {g3 g4 g5 g7 : Nat} {A1 A7 A10 : Option Addr} {c1 c7 c10 : Nat} {T N L : List S51} {o v : S38} {W W' : World} (h : KSt w g3 g4 g5 g7 A1 A7 A10 c1 c7 c10 T N L o v W) (hb : Below W.heap.size W W') : KSt w g3 g4 g5 g7 A1 A7 A10 c1 c7 c10 T N L o v W' :=
  ⟨h.b3.keep hb, h.b4.keep hb, h.b5.keep hb, h.b7.keep hb, h.t.below hb, h.n.below hb, h.l.below hb, keep_below h.hB hb⟩
def toldR (L : List S51) (r : Int) (i : Nat) : Bool := (L.take i).any fun x => decide (x.f0 = r)
theorem told_next (L : List S51) (r : Int) (i : Nat) (h : i < L.length) : toldR L r (i + 1) = (toldR L r i || ((rd_T51 L (i : Int)).f0 == r)) := by
  unfold toldR
  rw [List.take_succ_eq_append_getElem h, List.any_append, rd_get h]
  simp
  cases hx : decide (L[i].f0 = r) <;> simp_all
set_option maxHeartbeats 8000000 in
set_option maxRecDepth 100000 in
theorem keeps_tail (w W : World) (g3 g4 g5 g7 : Nat) (A1 A7 A10 : Option Addr) (c1 c7 c10 : Nat) (T N L : List S51) (o v : S38) (hS : KSt w g3 g4 g5 g7 A1 A7 A10 c1 c7 c10 T N L o v W)
    (hL : L.length ≤ 1000) (hTl : T.length ≤ 1000) (hr : riseR L) (hm : ∀ x ∈ L, meetB v.f3 x = true) (hi : o.f0 = 2 → ∀ x ∈ L, x.f0 = o.f2 → x = rowP o.f2 o.f3.f0 o.f3.f1 o.f3.f2 o.f3.f3 o.f4)
    (hend2 : o.f0 = 2 → meetB v.f3 (rowP o.f2 o.f3.f0 o.f3.f1 o.f3.f2 o.f3.f3 o.f4) = toldR L o.f2 L.length ∧ N.length = T.length + 1)
    (hend3 : o.f0 = 3 → toldR L o.f2 L.length = false ∧ N.length + 1 = T.length) (hend : ¬ o.f0 = 2 → ¬ o.f0 = 3 → ∃ k, model_Same.f k T N = some true) (u0 u1 u2 u6 u8 u9 u11 u12 u13 u14 u15 u16 u17 u18 u19 u20 u21 u22 u23 u24 u25 u26 u27 u28 u29 u30 u31 u32 u33 u34 u35 u36 u37 u38 u39 u40 u41 u42 u43 u44 u45 u46 u47 u48 u49 u50 u51 u52 u53 u54 u55 u56 u57 u58 u59 u60 u61 u62 u63 u64 u65 u66 u67 u68 u69 u70 u71 u72 u73 u74 u75 u76 u77 u78 u79 u80 u81 u82 u83 u84 u85 u86 u87 u88 u89 u90 u91 u92 u93 u94 u95 u96 u97 u98 u99 u100 u101 u102 u103 u104 u105 u106 u107 u108 u109 u110 u111 u112 u113 u114 u115 u116 u117 u118 u119 u120 u121 u122 u123 u124 u125 u126 u127 u128 u129 u130 u131 u132 u133 u134 u135 u136 u137 u138 u139 u140 u141 u142 u143 u144 u145 u146 u147 u148 u149 u150 u151 u152 u153 u154 u155 u156 u157 u158 u159 u160 u161 u162 u163 u164 u165 u166 u167 u168 u169 u170 u171 : Value) :
    ((Go.Code.region 14 #[{ dst := some 11, op := Go.Op.assign (Go.Operand.const (Go.Value.bool false)), type := 4, pos := "outright.go:30", after := #[], guard := none }] false).seq (((Go.Code.region 15 #[{ dst := some 76, op := Go.Op.move (Go.Operand.tmp 10), type := 22, pos := "outright.go:31", after := #[], guard := none }, { dst := some 77, op := Go.Op.call { callee := Go.Callee.builtin Go.Builtin.len, args := #[Go.Operand.tmp 76], argTypes := #[22] }, type := 3, pos := "outright.go:31", after := #[{ on := 0, ground := Go.Ground.data }], guard := none }, { dst := some 78, op := Go.Op.move (Go.Operand.const (Go.Value.int Go.IntKind.i64 0)), type := 3, pos := "outright.go:31", after := #[], guard := none }] false).seq (Go.Code.block 0 ((Go.Code.region 16 #[{ dst := some 79, op := Go.Op.binOp Go.BinOp.lss 3 (Go.Operand.tmp 78) (Go.Operand.tmp 77) 3, type := 0, pos := "outright.go:31", after := #[], guard := none }] false).seq ((Go.Code.cond (Go.Operand.tmp 79) Go.Code.skip (Go.Code.exit 0)).seq ((Go.Code.block 1 ((Go.Code.region 17 #[{ dst := some 80, op := Go.Op.move (Go.Operand.tmp 78), type := 3, pos := "outright.go:31", after := #[], guard := none }, { dst := some 81, op := Go.Op.indexAddr 22 (Go.Operand.tmp 76) (Go.Operand.tmp 78), type := 0, pos := "outright.go:31", after := #[], guard := none }, { dst := some 82, op := Go.Op.load 51 (Go.Operand.tmp 81), type := 51, pos := "outright.go:31", after := #[{ on := 1, ground := Go.Ground.data }], guard := none }, { dst := some 13, op := Go.Op.alloc 51, type := 0, pos := "outright.go:31", after := #[], guard := none }, { dst := some 12, op := Go.Op.assign (Go.Operand.tmp 80), type := 3, pos := "outright.go:31", after := #[{ on := 0, ground := Go.Ground.data }, { on := 0, ground := Go.Ground.phase }, { on := 1, ground := Go.Ground.phase }, { on := 2, ground := Go.Ground.phase }, { on := 3, ground := Go.Ground.phase }], guard := none }, { dst := none, op := Go.Op.store 51 (Go.Operand.tmp 13) (Go.Operand.tmp 82), type := 0, pos := "outright.go:31", after := #[{ on := 3, ground := Go.Ground.data }, { on := 2, ground := Go.Ground.data }, { on := 4, ground := Go.Ground.chain }, { on := 0, ground := Go.Ground.phase }, { on := 1, ground := Go.Ground.phase }, { on := 2, ground := Go.Ground.phase }, { on := 3, ground := Go.Ground.phase }, { on := 4, ground := Go.Ground.phase }], guard := none }] false).seq (((Go.Code.region 18 #[{ dst := some 83, op := Go.Op.fieldAddr 51 (Go.Operand.tmp 13) 1, type := 0, pos := "outright.go:32", after := #[], guard := none }, { dst := some 84, op := Go.Op.load 36 (Go.Operand.tmp 83), type := 36, pos := "outright.go:32", after := #[{ on := 0, ground := Go.Ground.data }], guard := none }, { dst := some 85, op := Go.Op.fieldAddr 38 (Go.Operand.tmp 5) 3, type := 0, pos := "outright.go:32", after := #[], guard := none }, { dst := some 86, op := Go.Op.load 36 (Go.Operand.tmp 85), type := 36, pos := "outright.go:32", after := #[{ on := 2, ground := Go.Ground.data }], guard := none }, { dst := some 87, op := Go.Op.call { callee := Go.Callee.value (Go.Operand.func 29), args := #[Go.Operand.tmp 84, Go.Operand.tmp 86], argTypes := #[36, 36] }, type := 4, pos := "outright.go:32", after := #[{ on := 1, ground := Go.Ground.data }, { on := 3, ground := Go.Ground.data }], guard := none }, { dst := some 88, op := Go.Op.unOp Go.UnOp.not 4 (Go.Operand.tmp 87), type := 4, pos := "outright.go:32", after := #[{ on := 4, ground := Go.Ground.data }], guard := none }, { dst := some 89, op := Go.Op.move (Go.Operand.tmp 88), type := 4, pos := "outright.go:32", after := #[{ on := 5, ground := Go.Ground.data }, { on := 4, ground := Go.Ground.chain }], guard := none }, { dst := some 90, op := Go.Op.move (Go.Operand.tmp 12), type := 3, pos := "outright.go:32", after := #[{ on := 6, ground := Go.Ground.guard }], guard := some (6, false) }, { dst := some 91, op := Go.Op.binOp Go.BinOp.gtr 3 (Go.Operand.tmp 90) (Go.Operand.const (Go.Value.int Go.IntKind.i64 0)) 3, type := 4, pos := "outright.go:32", after := #[{ on := 7, ground := Go.Ground.data }, { on := 6, ground := Go.Ground.guard }], guard := some (6, false) }, { dst := some 92, op := Go.Op.move (Go.Operand.tmp 91), type := 4, pos := "outright.go:32", after := #[{ on := 8, ground := Go.Ground.data }, { on := 6, ground := Go.Ground.chain }, { on := 6, ground := Go.Ground.guard }], guard := some (6, false) }, { dst := some 93, op := Go.Op.move (Go.Operand.tmp 10), type := 22, pos := "outright.go:32", after := #[{ on := 9, ground := Go.Ground.guard }], guard := some (9, true) }, { dst := some 94, op := Go.Op.move (Go.Operand.tmp 12), type := 3, pos := "outright.go:32", after := #[{ on := 9, ground := Go.Ground.guard }], guard := some (9, true) }, { dst := some 95, op := Go.Op.binOp Go.BinOp.sub 3 (Go.Operand.tmp 94) (Go.Operand.const (Go.Value.int Go.IntKind.i64 1)) 3, type := 3, pos := "outright.go:32", after := #[{ on := 11, ground := Go.Ground.data }, { on := 9, ground := Go.Ground.guard }], guard := some (9, true) }, { dst := some 96, op := Go.Op.indexAddr 22 (Go.Operand.tmp 93) (Go.Operand.tmp 95), type := 0, pos := "outright.go:32", after := #[{ on := 10, ground := Go.Ground.data }, { on := 12, ground := Go.Ground.data }, { on := 9, ground := Go.Ground.guard }], guard := some (9, true) }, { dst := some 97, op := Go.Op.fieldAddr 51 (Go.Operand.tmp 96) 0, type := 0, pos := "outright.go:32", after := #[{ on := 13, ground := Go.Ground.data }, { on := 9, ground := Go.Ground.guard }], guard := some (9, true) }, { dst := some 98, op := Go.Op.load 34 (Go.Operand.tmp 97), type := 34, pos := "outright.go:32", after := #[{ on := 14, ground := Go.Ground.data }, { on := 9, ground := Go.Ground.guard }], guard := some (9, true) }, { dst := some 99, op := Go.Op.fieldAddr 51 (Go.Operand.tmp 13) 0, type := 0, pos := "outright.go:32", after := #[{ on := 9, ground := Go.Ground.guard }], guard := some (9, true) }, { dst := some 100, op := Go.Op.load 34 (Go.Operand.tmp 99), type := 34, pos := "outright.go:32", after := #[{ on := 16, ground := Go.Ground.data }, { on := 9, ground := Go.Ground.guard }], guard := some (9, true) }, { dst := some 101, op := Go.Op.binOp Go.BinOp.geq 34 (Go.Operand.tmp 98) (Go.Operand.tmp 100) 34, type := 4, pos := "outright.go:32", after := #[{ on := 15, ground := Go.Ground.data }, { on := 17, ground := Go.Ground.data }, { on := 9, ground := Go.Ground.guard }], guard := some (9, true) }, { dst := some 102, op := Go.Op.pick (Go.Operand.tmp 92) (Go.Operand.tmp 101) (Go.Operand.const (Go.Value.bool false)), type := 4, pos := "outright.go:32", after := #[{ on := 9, ground := Go.Ground.data }, { on := 18, ground := Go.Ground.data }, { on := 6, ground := Go.Ground.guard }], guard := some (6, false) }, { dst := some 103, op := Go.Op.pick (Go.Operand.tmp 89) (Go.Operand.const (Go.Value.bool true)) (Go.Operand.tmp 102), type := 4, pos := "outright.go:32", after := #[{ on := 6, ground := Go.Ground.data }, { on := 19, ground := Go.Ground.data }], guard := none }] true).seq (Go.Code.cond (Go.Operand.tmp 103) ((Go.Code.region 19 #[{ dst := some 6, op := Go.Op.assign (Go.Operand.const (Go.Value.bool false)), type := 4, pos := "outright.go:33", after := #[], guard := none }] false).seq Go.Code.ret) Go.Code.skip)).seq ((Go.Code.region 20 #[{ dst := some 104, op := Go.Op.move (Go.Operand.tmp 11), type := 4, pos := "outright.go:35", after := #[], guard := none }, { dst := some 105, op := Go.Op.move (Go.Operand.tmp 104), type := 4, pos := "outright.go:35", after := #[{ on := 0, ground := Go.Ground.data }], guard := none }, { dst := some 106, op := Go.Op.fieldAddr 51 (Go.Operand.tmp 13) 0, type := 0, pos := "outright.go:35", after := #[{ on := 1, ground := Go.Ground.guard }], guard := some (1, false) }, { dst := some 107, op := Go.Op.load 34 (Go.Operand.tmp 106), type := 34, pos := "outright.go:35", after := #[{ on := 2, ground := Go.Ground.data }, { on := 1, ground := Go.Ground.guard }], guard := some (1, false) }, { dst := some 108, op := Go.Op.fieldAddr 38 (Go.Operand.tmp 4) 2, type := 0, pos := "outright.go:35", after := #[{ on := 1, ground := Go.Ground.guard }], guard := some (1, false) }, { dst := some 109, op := Go.Op.load 34 (Go.Operand.tmp 108), type := 34, pos := "outright.go:35", after := #[{ on := 4, ground := Go.Ground.data }, { on := 1, ground := Go.Ground.guard }], guard := some (1, false) }, { dst := some 110, op := Go.Op.binOp Go.BinOp.eql 34 (Go.Operand.tmp 107) (Go.Operand.tmp 109) 34, type := 4, pos := "outright.go:35", after := #[{ on := 3, ground := Go.Ground.data }, { on := 5, ground := Go.Ground.data }, { on := 1, ground := Go.Ground.guard }], guard := some (1, false) }, { dst := some 111, op := Go.Op.pick (Go.Operand.tmp 105) (Go.Operand.const (Go.Value.bool true)) (Go.Operand.tmp 110), type := 4, pos := "outright.go:35", after := #[{ on := 1, ground := Go.Ground.data }, { on := 6, ground := Go.Ground.data }], guard := none }, { dst := some 11, op := Go.Op.assign (Go.Operand.tmp 111), type := 4, pos := "outright.go:35", after := #[{ on := 7, ground := Go.Ground.data }, { on := 1, ground := Go.Ground.chain }, { on := 0, ground := Go.Ground.phase }, { on := 1, ground := Go.Ground.phase }, { on := 2, ground := Go.Ground.phase }, { on := 3, ground := Go.Ground.phase }, { on := 4, ground := Go.Ground.phase }, { on := 5, ground := Go.Ground.phase }, { on := 6, ground := Go.Ground.phase }, { on := 7, ground := Go.Ground.phase }], guard := none }] false).seq ((Go.Code.region 21 #[{ dst := some 112, op := Go.Op.fieldAddr 51 (Go.Operand.tmp 13) 0, type := 0, pos := "outright.go:36", after := #[], guard := none }, { dst := some 113, op := Go.Op.load 34 (Go.Operand.tmp 112), type := 34, pos := "outright.go:36", after := #[{ on := 0, ground := Go.Ground.data }], guard := none }, { dst := some 114, op := Go.Op.fieldAddr 38 (Go.Operand.tmp 4) 2, type := 0, pos := "outright.go:36", after := #[], guard := none }, { dst := some 115, op := Go.Op.load 34 (Go.Operand.tmp 114), type := 34, pos := "outright.go:36", after := #[{ on := 2, ground := Go.Ground.data }], guard := none }, { dst := some 116, op := Go.Op.binOp Go.BinOp.eql 34 (Go.Operand.tmp 113) (Go.Operand.tmp 115) 34, type := 4, pos := "outright.go:36", after := #[{ on := 1, ground := Go.Ground.data }, { on := 3, ground := Go.Ground.data }], guard := none }, { dst := some 117, op := Go.Op.move (Go.Operand.tmp 116), type := 4, pos := "outright.go:36", after := #[{ on := 4, ground := Go.Ground.data }], guard := none }, { dst := some 118, op := Go.Op.fieldAddr 38 (Go.Operand.tmp 4) 0, type := 0, pos := "outright.go:36", after := #[{ on := 5, ground := Go.Ground.guard }], guard := some (5, true) }, { dst := some 119, op := Go.Op.load 3 (Go.Operand.tmp 118), type := 3, pos := "outright.go:36", after := #[{ on := 6, ground := Go.Ground.data }, { on := 5, ground := Go.Ground.guard }], guard := some (5, true) }, { dst := some 120, op := Go.Op.binOp Go.BinOp.eql 3 (Go.Operand.tmp 119) (Go.Operand.const (Go.Value.int Go.IntKind.i64 2)) 3, type := 4, pos := "outright.go:36", after := #[{ on := 7, ground := Go.Ground.data }, { on := 5, ground := Go.Ground.guard }], guard := some (5, true) }, { dst := some 121, op := Go.Op.pick (Go.Operand.tmp 117) (Go.Operand.tmp 120) (Go.Operand.const (Go.Value.bool false)), type := 4, pos := "outright.go:36", after := #[{ on := 5, ground := Go.Ground.data }, { on := 8, ground := Go.Ground.data }], guard := none }, { dst := some 122, op := Go.Op.move (Go.Operand.tmp 121), type := 4, pos := "outright.go:36", after := #[{ on := 9, ground := Go.Ground.data }, { on := 5, ground := Go.Ground.chain }], guard := none }, { dst := some 123, op := Go.Op.load 51 (Go.Operand.tmp 13), type := 51, pos := "outright.go:36", after := #[{ on := 10, ground := Go.Ground.guard }], guard := some (10, true) }, { dst := some 124, op := Go.Op.fieldAddr 38 (Go.Operand.tmp 4) 2, type := 0, pos := "outright.go:36", after := #[{ on := 10, ground := Go.Ground.guard }], guard := some (10, true) }, { dst := some 125, op := Go.Op.load 34 (Go.Operand.tmp 124), type := 34, pos := "outright.go:36", after := #[{ on := 12, ground := Go.Ground.data }, { on := 10, ground := Go.Ground.guard }], guard := some (10, true) }, { dst := some 126, op := Go.Op.fieldAddr 38 (Go.Operand.tmp 4) 3, type := 0, pos := "outright.go:36", after := #[{ on := 10, ground := Go.Ground.guard }], guard := some (10, true) }, { dst := some 127, op := Go.Op.load 36 (Go.Operand.tmp 126), type := 36, pos := "outright.go:36", after := #[{ on := 14, ground := Go.Ground.data }, { on := 10, ground := Go.Ground.guard }], guard := some (10, true) }, { dst := some 128, op := Go.Op.fieldAddr 38 (Go.Operand.tmp 4) 4, type := 0, pos := "outright.go:36", after := #[{ on := 10, ground := Go.Ground.guard }], guard := some (10, true) }, { dst := some 129, op := Go.Op.load 2 (Go.Operand.tmp 128), type := 2, pos := "outright.go:36", after := #[{ on := 16, ground := Go.Ground.data }, { on := 10, ground := Go.Ground.guard }], guard := some (10, true) }, { dst := some 130, op := Go.Op.build 51 #[(0, Go.Operand.tmp 125), (1, Go.Operand.tmp 127), (2, Go.Operand.tmp 129)], type := 51, pos := "outright.go:36", after := #[{ on := 13, ground := Go.Ground.data }, { on := 15, ground := Go.Ground.data }, { on := 17, ground := Go.Ground.data }, { on := 10, ground := Go.Ground.guard }], guard := some (10, true) }, { dst := some 131, op := Go.Op.binOp Go.BinOp.neq 51 (Go.Operand.tmp 123) (Go.Operand.tmp 130) 51, type := 4, pos := "outright.go:36", after := #[{ on := 11, ground := Go.Ground.data }, { on := 18, ground := Go.Ground.data }, { on := 10, ground := Go.Ground.guard }], guard := some (10, true) }, { dst := some 132, op := Go.Op.pick (Go.Operand.tmp 122) (Go.Operand.tmp 131) (Go.Operand.const (Go.Value.bool false)), type := 4, pos := "outright.go:36", after := #[{ on := 10, ground := Go.Ground.data }, { on := 19, ground := Go.Ground.data }], guard := none }] false).seq (Go.Code.cond (Go.Operand.tmp 132) ((Go.Code.region 22 #[{ dst := some 6, op := Go.Op.assign (Go.Operand.const (Go.Value.bool false)), type := 4, pos := "outright.go:37", after := #[], guard := none }] false).seq Go.Code.ret) Go.Code.skip)))))).seq (Go.Code.region 23 #[{ dst := some 133, op := Go.Op.binOp Go.BinOp.add 3 (Go.Operand.tmp 78) (Go.Operand.const (Go.Value.int Go.IntKind.i64 1)) 3, type := 3, pos := "outright.go:31", after := #[], guard := none }, { dst := some 78, op := Go.Op.move (Go.Operand.tmp 133), type := 3, pos := "outright.go:31", after := #[{ on := 0, ground := Go.Ground.data }], guard := none }] false)))).loop)).seq (((Go.Code.region 24 #[{ dst := some 134, op := Go.Op.fieldAddr 38 (Go.Operand.tmp 4) 0, type := 0, pos := "outright.go:40", after := #[], guard := none }, { dst := some 135, op := Go.Op.load 3 (Go.Operand.tmp 134), type := 3, pos := "outright.go:40", after := #[{ on := 0, ground := Go.Ground.data }], guard := none }] false).seq (Go.Code.block 2 ((Go.Code.region 25 #[{ dst := some 137, op := Go.Op.binOp Go.BinOp.eql 3 (Go.Operand.tmp 135) (Go.Operand.const (Go.Value.int Go.IntKind.i64 2)) 3, type := 4, pos := "outright.go:41", after := #[], guard := none }, { dst := some 136, op := Go.Op.assign (Go.Operand.tmp 137), type := 4, pos := "outright.go:41", after := #[{ on := 0, ground := Go.Ground.data }], guard := none }] false).seq (Go.Code.cond (Go.Operand.tmp 136) ((Go.Code.region 26 #[{ dst := some 138, op := Go.Op.move (Go.Operand.tmp 11), type := 4, pos := "outright.go:42", after := #[], guard := none }, { dst := some 139, op := Go.Op.fieldAddr 38 (Go.Operand.tmp 4) 3, type := 0, pos := "outright.go:42", after := #[], guard := none }, { dst := some 140, op := Go.Op.load 36 (Go.Operand.tmp 139), type := 36, pos := "outright.go:42", after := #[{ on := 1, ground := Go.Ground.data }], guard := none }, { dst := some 141, op := Go.Op.fieldAddr 38 (Go.Operand.tmp 5) 3, type := 0, pos := "outright.go:42", after := #[], guard := none }, { dst := some 142, op := Go.Op.load 36 (Go.Operand.tmp 141), type := 36, pos := "outright.go:42", after := #[{ on := 3, ground := Go.Ground.data }], guard := none }, { dst := some 143, op := Go.Op.call { callee := Go.Callee.value (Go.Operand.func 29), args := #[Go.Operand.tmp 140, Go.Operand.tmp 142], argTypes := #[36, 36] }, type := 4, pos := "outright.go:42", after := #[{ on := 2, ground := Go.Ground.data }, { on := 4, ground := Go.Ground.data }], guard := none }, { dst := some 144, op := Go.Op.binOp Go.BinOp.eql 4 (Go.Operand.tmp 138) (Go.Operand.tmp 143) 4, type := 4, pos := "outright.go:42", after := #[{ on := 0, ground := Go.Ground.data }, { on := 5, ground := Go.Ground.data }], guard := none }, { dst := some 145, op := Go.Op.move (Go.Operand.tmp 144), type := 4, pos := "outright.go:42", after := #[{ on := 6, ground := Go.Ground.data }, { on := 5, ground := Go.Ground.chain }], guard := none }, { dst := some 146, op := Go.Op.fieldAddr 24 (Go.Operand.tmp 7) 0, type := 0, pos := "outright.go:42", after := #[{ on := 7, ground := Go.Ground.guard }], guard := some (7, true) }, { dst := some 147, op := Go.Op.load 22 (Go.Operand.tmp 146), type := 22, pos := "outright.go:42", after := #[{ on := 8, ground := Go.Ground.data }, { on := 7, ground := Go.Ground.guard }], guard := some (7, true) }, { dst := some 148, op := Go.Op.call { callee := Go.Callee.builtin Go.Builtin.len, args := #[Go.Operand.tmp 147], argTypes := #[22] }, type := 3, pos := "outright.go:42", after := #[{ on := 9, ground := Go.Ground.data }, { on := 7, ground := Go.Ground.guard }], guard := some (7, true) }, { dst := some 149, op := Go.Op.fieldAddr 24 (Go.Operand.tmp 3) 0, type := 0, pos := "outright.go:42", after := #[{ on := 7, ground := Go.Ground.guard }], guard := some (7, true) }, { dst := some 150, op := Go.Op.load 22 (Go.Operand.tmp 149), type := 22, pos := "outright.go:42", after := #[{ on := 11, ground := Go.Ground.data }, { on := 7, ground := Go.Ground.guard }], guard := some (7, true) }, { dst := some 151, op := Go.Op.call { callee := Go.Callee.builtin Go.Builtin.len, args := #[Go.Operand.tmp 150], argTypes := #[22] }, type := 3, pos := "outright.go:42", after := #[{ on := 12, ground := Go.Ground.data }, { on := 7, ground := Go.Ground.guard }], guard := some (7, true) }, { dst := some 152, op := Go.Op.binOp Go.BinOp.add 3 (Go.Operand.tmp 151) (Go.Operand.const (Go.Value.int Go.IntKind.i64 1)) 3, type := 3, pos := "outright.go:42", after := #[{ on := 13, ground := Go.Ground.data }, { on := 7, ground := Go.Ground.guard }], guard := some (7, true) }, { dst := some 153, op := Go.Op.binOp Go.BinOp.eql 3 (Go.Operand.tmp 148) (Go.Operand.tmp 152) 3, type := 4, pos := "outright.go:42", after := #[{ on := 10, ground := Go.Ground.data }, { on := 14, ground := Go.Ground.data }, { on := 7, ground := Go.Ground.guard }], guard := some (7, true) }, { dst := some 154, op := Go.Op.pick (Go.Operand.tmp 145) (Go.Operand.tmp 153) (Go.Operand.const (Go.Value.bool false)), type := 4, pos := "outright.go:42", after := #[{ on := 7, ground := Go.Ground.data }, { on := 15, ground := Go.Ground.data }], guard := none }, { dst := some 6, op := Go.Op.assign (Go.Operand.tmp 154), type := 4, pos := "outright.go:42", after := #[{ on := 16, ground := Go.Ground.data }, { on := 7, ground := Go.Ground.chain }, { on := 0, ground := Go.Ground.phase }, { on := 1, ground := Go.Ground.phase }, { on := 2, ground := Go.Ground.phase }, { on := 3, ground := Go.Ground.phase }, { on := 4, ground := Go.Ground.phase }, { on := 5, ground := Go.Ground.phase }, { on := 6, ground := Go.Ground.phase }, { on := 7, ground := Go.Ground.phase }, { on := 8, ground := Go.Ground.phase }, { on := 9, ground := Go.Ground.phase }, { on := 10, ground := Go.Ground.phase }, { on := 11, ground := Go.Ground.phase }, { on := 12, ground := Go.Ground.phase }, { on := 13, ground := Go.Ground.phase }, { on := 14, ground := Go.Ground.phase }, { on := 15, ground := Go.Ground.phase }, { on := 16, ground := Go.Ground.phase }], guard := none }] false).seq Go.Code.ret) ((Go.Code.region 27 #[{ dst := some 156, op := Go.Op.binOp Go.BinOp.eql 3 (Go.Operand.tmp 135) (Go.Operand.const (Go.Value.int Go.IntKind.i64 3)) 3, type := 4, pos := "outright.go:43", after := #[], guard := none }, { dst := some 155, op := Go.Op.assign (Go.Operand.tmp 156), type := 4, pos := "outright.go:43", after := #[{ on := 0, ground := Go.Ground.data }], guard := none }] false).seq (Go.Code.cond (Go.Operand.tmp 155) ((Go.Code.region 28 #[{ dst := some 157, op := Go.Op.move (Go.Operand.tmp 11), type := 4, pos := "outright.go:44", after := #[], guard := none }, { dst := some 158, op := Go.Op.unOp Go.UnOp.not 4 (Go.Operand.tmp 157), type := 4, pos := "outright.go:44", after := #[{ on := 0, ground := Go.Ground.data }], guard := none }, { dst := some 159, op := Go.Op.move (Go.Operand.tmp 158), type := 4, pos := "outright.go:44", after := #[{ on := 1, ground := Go.Ground.data }], guard := none }, { dst := some 160, op := Go.Op.fieldAddr 24 (Go.Operand.tmp 7) 0, type := 0, pos := "outright.go:44", after := #[{ on := 2, ground := Go.Ground.guard }], guard := some (2, true) }, { dst := some 161, op := Go.Op.load 22 (Go.Operand.tmp 160), type := 22, pos := "outright.go:44", after := #[{ on := 3, ground := Go.Ground.data }, { on := 2, ground := Go.Ground.guard }], guard := some (2, true) }, { dst := some 162, op := Go.Op.call { callee := Go.Callee.builtin Go.Builtin.len, args := #[Go.Operand.tmp 161], argTypes := #[22] }, type := 3, pos := "outright.go:44", after := #[{ on := 4, ground := Go.Ground.data }, { on := 2, ground := Go.Ground.guard }], guard := some (2, true) }, { dst := some 163, op := Go.Op.fieldAddr 24 (Go.Operand.tmp 3) 0, type := 0, pos := "outright.go:44", after := #[{ on := 2, ground := Go.Ground.guard }], guard := some (2, true) }, { dst := some 164, op := Go.Op.load 22 (Go.Operand.tmp 163), type := 22, pos := "outright.go:44", after := #[{ on := 6, ground := Go.Ground.data }, { on := 2, ground := Go.Ground.guard }], guard := some (2, true) }, { dst := some 165, op := Go.Op.call { callee := Go.Callee.builtin Go.Builtin.len, args := #[Go.Operand.tmp 164], argTypes := #[22] }, type := 3, pos := "outright.go:44", after := #[{ on := 7, ground := Go.Ground.data }, { on := 2, ground := Go.Ground.guard }], guard := some (2, true) }, { dst := some 166, op := Go.Op.binOp Go.BinOp.sub 3 (Go.Operand.tmp 165) (Go.Operand.const (Go.Value.int Go.IntKind.i64 1)) 3, type := 3, pos := "outright.go:44", after := #[{ on := 8, ground := Go.Ground.data }, { on := 2, ground := Go.Ground.guard }], guard := some (2, true) }, { dst := some 167, op := Go.Op.binOp Go.BinOp.eql 3 (Go.Operand.tmp 162) (Go.Operand.tmp 166) 3, type := 4, pos := "outright.go:44", after := #[{ on := 5, ground := Go.Ground.data }, { on := 9, ground := Go.Ground.data }, { on := 2, ground := Go.Ground.guard }], guard := some (2, true) }, { dst := some 168, op := Go.Op.pick (Go.Operand.tmp 159) (Go.Operand.tmp 167) (Go.Operand.const (Go.Value.bool false)), type := 4, pos := "outright.go:44", after := #[{ on := 2, ground := Go.Ground.data }, { on := 10, ground := Go.Ground.data }], guard := none }, { dst := some 6, op := Go.Op.assign (Go.Operand.tmp 168), type := 4, pos := "outright.go:44", after := #[{ on := 11, ground := Go.Ground.data }, { on := 2, ground := Go.Ground.chain }, { on := 0, ground := Go.Ground.phase }, { on := 1, ground := Go.Ground.phase }, { on := 2, ground := Go.Ground.phase }, { on := 3, ground := Go.Ground.phase }, { on := 4, ground := Go.Ground.phase }, { on := 5, ground := Go.Ground.phase }, { on := 6, ground := Go.Ground.phase }, { on := 7, ground := Go.Ground.phase }, { on := 8, ground := Go.Ground.phase }, { on := 9, ground := Go.Ground.phase }, { on := 10, ground := Go.Ground.phase }, { on := 11, ground := Go.Ground.phase }], guard := none }] false).seq Go.Code.ret) Go.Code.skip)))))).seq ((Go.Code.region 29 #[{ dst := some 169, op := Go.Op.load 24 (Go.Operand.tmp 3), type := 24, pos := "outright.go:46", after := #[], guard := none }, { dst := some 170, op := Go.Op.load 24 (Go.Operand.tmp 7), type := 24, pos := "outright.go:46", after := #[], guard := none }, { dst := some 171, op := Go.Op.call { callee := Go.Callee.value (Go.Operand.func 23), args := #[Go.Operand.tmp 169, Go.Operand.tmp 170], argTypes := #[24, 24] }, type := 4, pos := "outright.go:46", after := #[{ on := 0, ground := Go.Ground.data }, { on := 1, ground := Go.Ground.data }], guard := none }, { dst := some 6, op := Go.Op.assign (Go.Operand.tmp 171), type := 4, pos := "outright.go:46", after := #[{ on := 2, ground := Go.Ground.data }, { on := 2, ground := Go.Ground.chain }, { on := 0, ground := Go.Ground.phase }, { on := 1, ground := Go.Ground.phase }, { on := 2, ground := Go.Ground.phase }], guard := none }] false).seq Go.Code.ret)))).wp Try.prog (bodyPost Try.prog Try.f7 fun e w' => e = .returned (.bool true) ∧ Below w.heap.size w w') ⟨#[u0, u1, u2, .pointer (some ⟨g3, 0, none⟩), .pointer (some ⟨g4, 0, none⟩), .pointer (some ⟨g5, 0, none⟩), u6, .pointer (some ⟨g7, 0, none⟩), u8, u9, .slice A10 L.length c10, u11, u12, u13, u14, u15, u16, u17, u18, u19, u20, u21, u22, u23, u24, u25, u26, u27, u28, u29, u30, u31, u32, u33, u34, u35, u36, u37, u38, u39, u40, u41, u42, u43, u44, u45, u46, u47, u48, u49, u50, u51, u52, u53, u54, u55, u56, u57, u58, u59, u60, u61, u62, u63, u64, u65, u66, u67, u68, u69, u70, u71, u72, u73, u74, u75, u76, u77, u78, u79, u80, u81, u82, u83, u84, u85, u86, u87, u88, u89, u90, u91, u92, u93, u94, u95, u96, u97, u98, u99, u100, u101, u102, u103, u104, u105, u106, u107, u108, u109, u110, u111, u112, u113, u114, u115, u116, u117, u118, u119, u120, u121, u122, u123, u124, u125, u126, u127, u128, u129, u130, u131, u132, u133, u134, u135, u136, u137, u138, u139, u140, u141, u142, u143, u144, u145, u146, u147, u148, u149, u150, u151, u152, u153, u154, u155, u156, u157, u158, u159, u160, u161, u162, u163, u164, u165, u166, u167, u168, u169, u170, u171], []⟩ W := by
  have HH := Lib.hid (And.intro hr (And.intro hm (And.intro hi (And.intro hend2 (And.intro hend3 hend)))))
  clear hr hm hi hend2 hend3 hend
  have HS := Lib.hid hS
  clear hS
  go_wp2
  go_loopw [11, 78] (fun v11 v78 wr => ∃ i : Nat, v11 = .bool (toldR L o.f2 i) ∧ v78 = .int .i64 (i : Int) ∧ i ≤ L.length ∧ Hid (KSt w g3 g4 g5 g7 A1 A7 A10 c1 c7 c10 T N L o v wr)) (fun _ v78 _ => L.length - (intOf v78).toNat)
  case atStart => exact ⟨0, by simp [toldR], rfl, by omega, HS⟩
  case round =>
    obtain ⟨i, rfl, rfl, hil, HK⟩ := hrel
    by_cases hlt : i < L.length
    · have hd : decide ((i : Int) < (L.length : Int)) = true := decide_eq_true (by omega)
      have hlt' : (i : Int) < (L.length : Int) := by omega
      have hw := wrap_sm (z := (i : Int) + 1) (by omega) (by omega)
      have hw2 := wrap_sm (z := (i : Int) - 1) (by omega) (by omega)
      have hnext := told_next L o.f2 i hlt
      obtain ⟨b, hb⟩ : ∃ b, toldR L o.f2 i = b := ⟨_, rfl⟩
      rw [hb] at hnext ⊢
      clear hb
      obtain ⟨ad, rfl, y0, y1, y2, y3, y4, y5⟩ := at_T51 HK.out.l.C.2 (i : Int) (by omega) (by omega)
      have hmem : rd_T51 L (i : Int) ∈ L := by
        rw [rd_get hlt]
        exact List.getElem_mem hlt
      have hprev : 0 < i → ∃ z : Int, wr.cell? (ad.add ((i - 1) * 6)) = some (.int .u32 z) ∧ z < (rd_T51 L (i : Int)).f0 := fun h0 => by
        obtain ⟨ad2, e2, z0, _⟩ := at_T51 HK.out.l.C.2 ((i - 1 : Nat) : Int) (by omega) (by omega)
        injection e2 with e2
        subst e2
        rw [Int.toNat_natCast] at z0
        refine ⟨_, z0, ?_⟩
        rw [rd_get (by omega), rd_get hlt]
        exact List.pairwise_iff_getElem.1 HH.out.1 (i - 1) i (by omega) hlt (by omega)
      generalize hx : rd_T51 L (i : Int) = x at *
      have hmeet := HH.out.2.1 x hmem
      have KC := fun W => key_call x v.f3 hmeet W
      have HP := Lib.hid hprev
      have HN := Lib.hid hnext
      clear hprev hnext hmeet hx
      rw [Int.toNat_natCast] at y0 y1 y2 y3 y4 y5
      go_upto_region 18 with fail
      have z13 := Blk.new wr 51 #[.int .u32 x.f0, .int .i64 x.f1.f0, .int .i64 x.f1.f1, .int .i64 x.f1.f2, .int .i64 x.f1.f3, .int .i64 x.f2]
      have HZ := Lib.hid (HK.out.below (keep_below_alloc (.cells #[.int .u32 x.f0, .int .i64 x.f1.f0, .int .i64 x.f1.f1, .int .i64 x.f1.f2, .int .i64 x.f1.f3, .int .i64 x.f2] 51) (Below.refl _ _)))
      have hPz : 0 < i → ∃ z : Int, (wr.alloc (.cells #[.int .u32 x.f0, .int .i64 x.f1.f0, .int .i64 x.f1.f1, .int .i64 x.f1.f2, .int .i64 x.f1.f3, .int .i64 x.f2] 51)).cell? (ad.add ((i - 1) * 6)) = some (.int .u32 z) ∧ z < x.f0 := fun h0 => by
        obtain ⟨z, h1, h2⟩ := HP.out h0
        exact ⟨z, (World.cell?_alloc_lt wr _ _ (World.block_lt_of_cell? _ _ h1)).trans h1, h2⟩
      generalize hge : wr.heap.size = g13 at z13 ⊢
      generalize wr.alloc (.cells #[.int .u32 x.f0, .int .i64 x.f1.f0, .int .i64 x.f1.f1, .int .i64 x.f1.f2, .int .i64 x.f1.f3, .int .i64 x.f2] 51) = Wx at z13 HZ hPz ⊢
      clear hge y0 y1 y2 y3 y4 y5 HK HP
      have k0 := z13.cell 0
      have k1 := z13.cell 1
      have k2 := z13.cell 2
      have k3 := z13.cell 3
      have k4 := z13.cell 4
      have j3 := HZ.out.b5.cell 3
      have j4 := HZ.out.b5.cell 4
      have j5 := HZ.out.b5.cell 5
      have j6 := HZ.out.b5.cell 6
      simp at k0 k1 k2 k3 k4 j3 j4 j5 j6
      by_cases hi0 : 0 < i
      · obtain ⟨z, hz, hzx⟩ := hPz hi0
        have g0 : decide ((i : Int) > 0) = true := decide_eq_true (by omega)
        have g1 : decide (0 < (i : Int)) = true := decide_eq_true (by omega)
        have g2 : decide (z ≥ x.f0) = false := decide_eq_false (by omega)
        have g3' : decide (x.f0 ≤ z) = false := decide_eq_false (by omega)
        have q0 : (0 ≤ (i : Int) - 1) = True := eq_true (by omega)
        have q1 : ((i : Int) - 1 < (L.length : Int)) = True := eq_true (by omega)
        have q2 : (1 ≤ (i : Int)) = True := eq_true (by omega)
        clear hPz
        refine start_ (n := 21) (S := (fun w' => Below Wx.heap.size Wx w')) (ds := []) #[false, false, false, false, false, false, false, false, false, false, false, false, false, false, false, false, false, false, false, false, false] (by kernel_rfl) rfl rfl (Below.drew (Below.refl _ _)) (fun hHeld => ?_)
        refine with_tabW kpr.tab18 kpr.bits18 (fun HT_ HW_ => ?_)
        refine pure_ (i := 0) (N := some 83) (v := ?_) (a' := ?_) #[true, false, false, false, false, false, false, false, false, false, false, false, false, false, false, false, false, false, false, false, false] rfl rfl (any_of HT_.out (by kernel_rfl)) (fun _ _ _ h => h) (Or.inl ⟨by rfl, ?_⟩) ?_ ?_
        rotate_left
        · intro w'
          go_simp
          with_reducible rfl
        rotate_left
        · simp only [Act.put, List.setIfInBounds_toArray, List.set_cons_zero, List.set_cons_succ, i64_w, i32_w]
          rfl
        refine take_ (i := 1) (N := some 84) (v := ?_) (a' := ?_) #[true, true, false, false, false, false, false, false, false, false, false, false, false, false, false, false, false, false, false, false, false] rfl rfl (take_ofW HT_.out HW_.out (by kernel_rfl)) (fun _ _ _ h => h) (Or.inl ⟨by rfl, ?_⟩) hHeld ?_ ?_
        rotate_left
        · rintro w' s0
          have m0 := keep_cell s0 k0
          have m1 := keep_cell s0 k1
          have m2 := keep_cell s0 k2
          have m3 := keep_cell s0 k3
          have m4 := keep_cell s0 k4
          have l3 := keep_cell s0 j3
          have l4 := keep_cell s0 j4
          have l5 := keep_cell s0 j5
          have l6 := keep_cell s0 j6
          have lz := (s0.cell (World.block_lt_of_cell? _ _ hz)).trans hz
          go_simp
          with_reducible rfl
        rotate_left
        · simp only [Act.put, List.setIfInBounds_toArray, List.set_cons_zero, List.set_cons_succ, i64_w, i32_w]
          rfl
        refine pure_ (i := 2) (N := some 85) (v := ?_) (a' := ?_) #[true, true, true, false, false, false, false, false, false, false, false, false, false, false, false, false, false, false, false, false, false] rfl rfl (any_of HT_.out (by kernel_rfl)) (fun _ _ _ h => h) (Or.inl ⟨by rfl, ?_⟩) ?_ ?_
        rotate_left
        · intro w'
          go_simp
          with_reducible rfl
        rotate_left
        · simp only [Act.put, List.setIfInBounds_toArray, List.set_cons_zero, List.set_cons_succ, i64_w, i32_w]
          rfl
        refine take_ (i := 3) (N := some 86) (v := ?_) (a' := ?_) #[true, true, true, true, false, false, false, false, false, false, false, false, false, false, false, false, false, false, false, false, false] rfl rfl (take_ofW HT_.out HW_.out (by kernel_rfl)) (fun _ _ _ h => h) (Or.inl ⟨by rfl, ?_⟩) hHeld ?_ ?_
        rotate_left
        · rintro w' s0
          have m0 := keep_cell s0 k0
          have m1 := keep_cell s0 k1
          have m2 := keep_cell s0 k2
          have m3 := keep_cell s0 k3
          have m4 := keep_cell s0 k4
          have l3 := keep_cell s0 j3
          have l4 := keep_cell s0 j4
          have l5 := keep_cell s0 j5
          have l6 := keep_cell s0 j6
          have lz := (s0.cell (World.block_lt_of_cell? _ _ hz)).trans hz
          go_simp
          with_reducible rfl
        rotate_left
        · simp only [Act.put, List.setIfInBounds_toArray, List.set_cons_zero, List.set_cons_succ, i64_w, i32_w]
          rfl
        have hX := hHeld
        refine one_ (i := 4) (N := some 87) #[true, true, true, true, true, false, false, false, false, false, false, false, false, false, false, false, false, false, false, false, false] rfl rfl (one_of HT_.out (by kernel_rfl)) (by decide) (fun K hK => ?_)
        refine goes_ Try.func29 (by kernel_rfl) rfl #[.agg #[.int .i64 x.f1.f0, .int .i64 x.f1.f1, .int .i64 x.f1.f2, .int .i64 x.f1.f3], .agg #[.int .i64 v.f3.f0, .int .i64 v.f3.f1, .int .i64 v.f3.f2, .int .i64 v.f3.f3]] (by rfl) rfl rfl (by (try simp only [List.map_toArray, List.map_cons, List.map_nil]); first | done | rfl) ?_
        refine (KC _).out.mono ?_
        rintro e_ w9 ⟨rfl, hb9⟩
        refine ⟨_, rfl, ?_⟩
        replace hX := keep_below hX hb9
        clear hb9
        refine hK.out _ _ hX (fun hHeld => ?_)
        clear hK K
        refine norm_ (a' := ?_) ?_ ?_
        rotate_left
        · first | (show Act.put _ (some 87) _ = _; simp only [Act.put, List.setIfInBounds_toArray, List.set_cons_zero, List.set_cons_succ, i64_w, i32_w]; rfl) | with_reducible rfl
        refine pure_ (i := 5) (N := some 88) (v := ?_) (a' := ?_) #[true, true, true, true, true, true, false, false, false, false, false, false, false, false, false, false, false, false, false, false, false] rfl rfl (any_of HT_.out (by kernel_rfl)) (fun _ _ _ h => h) (Or.inl ⟨by rfl, ?_⟩) ?_ ?_
        rotate_left
        · intro w'
          go_simp
          with_reducible rfl
        rotate_left
        · simp only [Act.put, List.setIfInBounds_toArray, List.set_cons_zero, List.set_cons_succ, i64_w, i32_w]
          rfl
        refine pure_ (i := 6) (N := some 89) (v := ?_) (a' := ?_) #[true, true, true, true, true, true, true, false, false, false, false, false, false, false, false, false, false, false, false, false, false] rfl rfl (any_of HT_.out (by kernel_rfl)) (fun _ _ _ h => h) (Or.inl ⟨by rfl, ?_⟩) ?_ ?_
        rotate_left
        · intro w'
          go_simp
          with_reducible rfl
        rotate_left
        · simp only [Act.put, List.setIfInBounds_toArray, List.set_cons_zero, List.set_cons_succ, i64_w, i32_w]
          rfl
        refine pure_ (i := 7) (N := some 90) (v := ?_) (a' := ?_) #[true, true, true, true, true, true, true, true, false, false, false, false, false, false, false, false, false, false, false, false, false] rfl rfl (any_of HT_.out (by kernel_rfl)) (fun _ _ _ h => h) (Or.inl ⟨by rfl, ?_⟩) ?_ ?_
        rotate_left
        · intro w'
          go_simp
          with_reducible rfl
        rotate_left
        · simp only [Act.put, List.setIfInBounds_toArray, List.set_cons_zero, List.set_cons_succ, i64_w, i32_w]
          rfl
        refine pure_ (i := 8) (N := some 91) (v := ?_) (a' := ?_) #[true, true, true, true, true, true, true, true, true, false, false, false, false, false, false, false, false, false, false, false, false] rfl rfl (any_of HT_.out (by kernel_rfl)) (fun _ _ _ h => h) (Or.inl ⟨by rfl, ?_⟩) ?_ ?_
        rotate_left
        · intro w'
          go_simp
          with_reducible rfl
        rotate_left
        · simp only [Act.put, List.setIfInBounds_toArray, List.set_cons_zero, List.set_cons_succ, i64_w, i32_w]
          rfl
        refine pure_ (i := 9) (N := some 92) (v := ?_) (a' := ?_) #[true, true, true, true, true, true, true, true, true, true, false, false, false, false, false, false, false, false, false, false, false] rfl rfl (any_of HT_.out (by kernel_rfl)) (fun _ _ _ h => h) (Or.inl ⟨by rfl, ?_⟩) ?_ ?_
        rotate_left
        · intro w'
          go_simp
          with_reducible rfl
        rotate_left
        · simp only [Act.put, List.setIfInBounds_toArray, List.set_cons_zero, List.set_cons_succ, i64_w, i32_w]
          rfl
        refine pure_ (i := 10) (N := some 93) (v := ?_) (a' := ?_) #[true, true, true, true, true, true, true, true, true, true, true, false, false, false, false, false, false, false, false, false, false] rfl rfl (any_of HT_.out (by kernel_rfl)) (fun _ _ _ h => h) (Or.inl ⟨by rfl, ?_⟩) ?_ ?_
        rotate_left
        · intro w'
          go_simp
          with_reducible rfl
        rotate_left
        · simp only [Act.put, List.setIfInBounds_toArray, List.set_cons_zero, List.set_cons_succ, i64_w, i32_w]
          rfl
        refine pure_ (i := 11) (N := some 94) (v := ?_) (a' := ?_) #[true, true, true, true, true, true, true, true, true, true, true, true, false, false, false, false, false, false, false, false, false] rfl rfl (any_of HT_.out (by kernel_rfl)) (fun _ _ _ h => h) (Or.inl ⟨by rfl, ?_⟩) ?_ ?_
        rotate_left
        · intro w'
          go_simp
          with_reducible rfl
        rotate_left
        · simp only [Act.put, List.setIfInBounds_toArray, List.set_cons_zero, List.set_cons_succ, i64_w, i32_w]
          rfl
        refine pure_ (i := 12) (N := some 95) (v := ?_) (a' := ?_) #[true, true, true, true, true, true, true, true, true, true, true, true, true, false, false, false, false, false, false, false, false] rfl rfl (any_of HT_.out (by kernel_rfl)) (fun _ _ _ h => h) (Or.inl ⟨by rfl, ?_⟩) ?_ ?_
        rotate_left
        · intro w'
          go_simp
          with_reducible rfl
        rotate_left
        · simp only [Act.put, List.setIfInBounds_toArray, List.set_cons_zero, List.set_cons_succ, i64_w, i32_w]
          rfl
        refine pure_ (i := 13) (N := some 96) (v := ?_) (a' := ?_) #[true, true, true, true, true, true, true, true, true, true, true, true, true, true, false, false, false, false, false, false, false] rfl rfl (any_of HT_.out (by kernel_rfl)) (fun _ _ _ h => h) (Or.inl ⟨by rfl, ?_⟩) ?_ ?_
        rotate_left
        · intro w'
          go_simp
          with_reducible rfl
        rotate_left
        · simp only [Act.put, List.setIfInBounds_toArray, List.set_cons_zero, List.set_cons_succ, i64_w, i32_w]
          rfl
        refine pure_ (i := 14) (N := some 97) (v := ?_) (a' := ?_) #[true, true, true, true, true, true, true, true, true, true, true, true, true, true, true, false, false, false, false, false, false] rfl rfl (any_of HT_.out (by kernel_rfl)) (fun _ _ _ h => h) (Or.inl ⟨by rfl, ?_⟩) ?_ ?_
        rotate_left
        · intro w'
          go_simp
          with_reducible rfl
        rotate_left
        · simp only [Act.put, List.setIfInBounds_toArray, List.set_cons_zero, List.set_cons_succ, i64_w, i32_w]
          rfl
        refine take_ (i := 15) (N := some 98) (v := ?_) (a' := ?_) #[true, true, true, true, true, true, true, true, true, true, true, true, true, true, true, true, false, false, false, false, false] rfl rfl (take_ofW HT_.out HW_.out (by kernel_rfl)) (fun _ _ _ h => h) (Or.inl ⟨by rfl, ?_⟩) hHeld ?_ ?_
        rotate_left
        · rintro w' s0
          have m0 := keep_cell s0 k0
          have m1 := keep_cell s0 k1
          have m2 := keep_cell s0 k2
          have m3 := keep_cell s0 k3
          have m4 := keep_cell s0 k4
          have l3 := keep_cell s0 j3
          have l4 := keep_cell s0 j4
          have l5 := keep_cell s0 j5
          have l6 := keep_cell s0 j6
          have lz := (s0.cell (World.block_lt_of_cell? _ _ hz)).trans hz
          go_simp
          with_reducible rfl
        rotate_left
        · simp only [Act.put, List.setIfInBounds_toArray, List.set_cons_zero, List.set_cons_succ, i64_w, i32_w]
          rfl
        refine pure_ (i := 16) (N := some 99) (v := ?_) (a' := ?_) #[true, true, true, true, true, true, true, true, true, true, true, true, true, true, true, true, true, false, false, false, false] rfl rfl (any_of HT_.out (by kernel_rfl)) (fun _ _ _ h => h) (Or.inl ⟨by rfl, ?_⟩) ?_ ?_
        rotate_left
        · intro w'
          go_simp
          with_reducible rfl
        rotate_left
        · simp only [Act.put, List.setIfInBounds_toArray, List.set_cons_zero, List.set_cons_succ, i64_w, i32_w]
          rfl
        refine take_ (i := 17) (N := some 100) (v := ?_) (a' := ?_) #[true, true, true, true, true, true, true, true, true, true, true, true, true, true, true, true, true, true, false, false, false] rfl rfl (take_ofW HT_.out HW_.out (by kernel_rfl)) (fun _ _ _ h => h) (Or.inl ⟨by rfl, ?_⟩) hHeld ?_ ?_
        rotate_left
        · rintro w' s0
          have m0 := keep_cell s0 k0
          have m1 := keep_cell s0 k1
          have m2 := keep_cell s0 k2
          have m3 := keep_cell s0 k3
          have m4 := keep_cell s0 k4
          have l3 := keep_cell s0 j3
          have l4 := keep_cell s0 j4
          have l5 := keep_cell s0 j5
          have l6 := keep_cell s0 j6
          have lz := (s0.cell (World.block_lt_of_cell? _ _ hz)).trans hz
          go_simp
          with_reducible rfl
        rotate_left
        · simp only [Act.put, List.setIfInBounds_toArray, List.set_cons_zero, List.set_cons_succ, i64_w, i32_w]
          rfl
        refine pure_ (i := 18) (N := some 101) (v := ?_) (a' := ?_) #[true, true, true, true, true, true, true, true, true, true, true, true, true, true, true, true, true, true, true, false, false] rfl rfl (any_of HT_.out (by kernel_rfl)) (fun _ _ _ h => h) (Or.inl ⟨by rfl, ?_⟩) ?_ ?_
        rotate_left
        · intro w'
          go_simp
          with_reducible rfl
        rotate_left
        · simp only [Act.put, List.setIfInBounds_toArray, List.set_cons_zero, List.set_cons_succ, i64_w, i32_w]
          rfl
        refine pure_ (i := 19) (N := some 102) (v := ?_) (a' := ?_) #[true, true, true, true, true, true, true, true, true, true, true, true, true, true, true, true, true, true, true, true, false] rfl rfl (any_of HT_.out (by kernel_rfl)) (fun _ _ _ h => h) (Or.inl ⟨by rfl, ?_⟩) ?_ ?_
        rotate_left
        · intro w'
          go_simp
          with_reducible rfl
        rotate_left
        · simp only [Act.put, List.setIfInBounds_toArray, List.set_cons_zero, List.set_cons_succ, i64_w, i32_w]
          rfl
        refine pure_ (i := 20) (N := some 103) (v := ?_) (a' := ?_) #[true, true, true, true, true, true, true, true, true, true, true, true, true, true, true, true, true, true, true, true, true] rfl rfl (any_of HT_.out (by kernel_rfl)) (fun _ _ _ h => h) (Or.inl ⟨by rfl, ?_⟩) ?_ ?_
        rotate_left
        · intro w'
          go_simp
          with_reducible rfl
        rotate_left
        · simp only [Act.put, List.setIfInBounds_toArray, List.set_cons_zero, List.set_cons_succ, i64_w, i32_w]
          rfl
        have hY := hHeld
        refine done_ (done_of HT_.out (by kernel_rfl)) ?_
        clear hY hHeld hz
        have z9 := z13.keep hX
        have H9 := Lib.hid (HZ.out.below hX)
        clear k0 k1 k2 k3 k4 j3 j4 j5 j6
        have k0 := z9.cell 0
        have k1 := z9.cell 1
        have k2 := z9.cell 2
        have k3 := z9.cell 3
        have k4 := z9.cell 4
        have k5 := z9.cell 5
        have o0 := H9.out.b4.cell 0
        have o2 := H9.out.b4.cell 2
        have o3 := H9.out.b4.cell 3
        have o4 := H9.out.b4.cell 4
        have o5 := H9.out.b4.cell 5
        have o6 := H9.out.b4.cell 6
        have o7 := H9.out.b4.cell 7
        simp at k0 k1 k2 k3 k4 k5 o0 o2 o3 o4 o5 o6 o7
        by_cases hf : x.f0 = o.f2
        · have f1 : (x.f0 == o.f2) = true := beq_iff_eq.mpr hf
          by_cases h2 : o.f0 = 2
          · have hxe := HH.out.2.2.1 h2 x hmem hf
            have e1 : x.f1.f0 = o.f3.f0 := by rw [hxe]
            have e2 : x.f1.f1 = o.f3.f1 := by rw [hxe]
            have e3 : x.f1.f2 = o.f3.f2 := by rw [hxe]
            have e4 : x.f1.f3 = o.f3.f3 := by rw [hxe]
            have e5 : x.f2 = o.f4 := by rw [hxe]
            have f2 : (o.f0 == 2) = true := beq_iff_eq.mpr h2
            clear hf h2 hxe
            have HNx := HN.out
            rw [f1] at HNx
            cases b
            · go_wp2
              go_roundw
              case rel => exact ⟨i + 1, by rw [HNx]; rfl, by simp [hw], by omega, H9⟩
              case measure => simp [intOf, hw]; omega
            · go_wp2
              go_roundw
              case rel => exact ⟨i + 1, by rw [HNx]; rfl, by simp [hw], by omega, H9⟩
              case measure => simp [intOf, hw]; omega
          · have f2 : (o.f0 == 2) = false := beq_eq_false_iff_ne.mpr h2
            clear hf h2
            have HNx := HN.out
            rw [f1] at HNx
            cases b
            · go_wp2
              go_roundw
              case rel => exact ⟨i + 1, by rw [HNx]; rfl, by simp [hw], by omega, H9⟩
              case measure => simp [intOf, hw]; omega
            · go_wp2
              go_roundw
              case rel => exact ⟨i + 1, by rw [HNx]; rfl, by simp [hw], by omega, H9⟩
              case measure => simp [intOf, hw]; omega
        · have f1 : (x.f0 == o.f2) = false := beq_eq_false_iff_ne.mpr hf
          clear hf
          have HNx := HN.out
          rw [f1] at HNx
          cases b
          · go_wp2
            go_roundw
            case rel => exact ⟨i + 1, by rw [HNx]; rfl, by simp [hw], by omega, H9⟩
            case measure => simp [intOf, hw]; omega
          · go_wp2
            go_roundw
            case rel => exact ⟨i + 1, by rw [HNx]; rfl, by simp [hw], by omega, H9⟩
            case measure => simp [intOf, hw]; omega
      · have g0 : decide ((i : Int) > 0) = false := decide_eq_false (by omega)
        have g1 : decide (0 < (i : Int)) = false := decide_eq_false (by omega)
        clear hPz
        refine start_ (n := 21) (S := (fun w' => Below Wx.heap.size Wx w')) (ds := []) #[false, false, false, false, false, false, false, false, false, false, false, false, false, false, false, false, false, false, false, false, false] (by kernel_rfl) rfl rfl (Below.drew (Below.refl _ _)) (fun hHeld => ?_)
        refine with_tabW kpr.tab18 kpr.bits18 (fun HT_ HW_ => ?_)
        refine pure_ (i := 0) (N := some 83) (v := ?_) (a' := ?_) #[true, false, false, false, false, false, false, false, false, false, false, false, false, false, false, false, false, false, false, false, false] rfl rfl (any_of HT_.out (by kernel_rfl)) (fun _ _ _ h => h) (Or.inl ⟨by rfl, ?_⟩) ?_ ?_
        rotate_left
        · intro w'
          go_simp
          with_reducible rfl
        rotate_left
        · simp only [Act.put, List.setIfInBounds_toArray, List.set_cons_zero, List.set_cons_succ, i64_w, i32_w]
          rfl
        refine take_ (i := 1) (N := some 84) (v := ?_) (a' := ?_) #[true, true, false, false, false, false, false, false, false, false, false, false, false, false, false, false, false, false, false, false, false] rfl rfl (take_ofW HT_.out HW_.out (by kernel_rfl)) (fun _ _ _ h => h) (Or.inl ⟨by rfl, ?_⟩) hHeld ?_ ?_
        rotate_left
        · rintro w' s0
          have m0 := keep_cell s0 k0
          have m1 := keep_cell s0 k1
          have m2 := keep_cell s0 k2
          have m3 := keep_cell s0 k3
          have m4 := keep_cell s0 k4
          have l3 := keep_cell s0 j3
          have l4 := keep_cell s0 j4
          have l5 := keep_cell s0 j5
          have l6 := keep_cell s0 j6
          go_simp
          with_reducible rfl
        rotate_left
        · simp only [Act.put, List.setIfInBounds_toArray, List.set_cons_zero, List.set_cons_succ, i64_w, i32_w]
          rfl
        refine pure_ (i := 2) (N := some 85) (v := ?_) (a' := ?_) #[true, true, true, false, false, false, false, false, false, false, false, false, false, false, false, false, false, false, false, false, false] rfl rfl (any_of HT_.out (by kernel_rfl)) (fun _ _ _ h => h) (Or.inl ⟨by rfl, ?_⟩) ?_ ?_
        rotate_left
        · intro w'
          go_simp
          with_reducible rfl
        rotate_left
        · simp only [Act.put, List.setIfInBounds_toArray, List.set_cons_zero, List.set_cons_succ, i64_w, i32_w]
          rfl
        refine take_ (i := 3) (N := some 86) (v := ?_) (a' := ?_) #[true, true, true, true, false, false, false, false, false, false, false, false, false, false, false, false, false, false, false, false, false] rfl rfl (take_ofW HT_.out HW_.out (by kernel_rfl)) (fun _ _ _ h => h) (Or.inl ⟨by rfl, ?_⟩) hHeld ?_ ?_
        rotate_left
        · rintro w' s0
          have m0 := keep_cell s0 k0
          have m1 := keep_cell s0 k1
          have m2 := keep_cell s0 k2
          have m3 := keep_cell s0 k3
          have m4 := keep_cell s0 k4
          have l3 := keep_cell s0 j3
          have l4 := keep_cell s0 j4
          have l5 := keep_cell s0 j5
          have l6 := keep_cell s0 j6
          go_simp
          with_reducible rfl
        rotate_left
        · simp only [Act.put, List.setIfInBounds_toArray, List.set_cons_zero, List.set_cons_succ, i64_w, i32_w]
          rfl
        have hX := hHeld
        refine one_ (i := 4) (N := some 87) #[true, true, true, true, true, false, false, false, false, false, false, false, false, false, false, false, false, false, false, false, false] rfl rfl (one_of HT_.out (by kernel_rfl)) (by decide) (fun K hK => ?_)
        refine goes_ Try.func29 (by kernel_rfl) rfl #[.agg #[.int .i64 x.f1.f0, .int .i64 x.f1.f1, .int .i64 x.f1.f2, .int .i64 x.f1.f3], .agg #[.int .i64 v.f3.f0, .int .i64 v.f3.f1, .int .i64 v.f3.f2, .int .i64 v.f3.f3]] (by rfl) rfl rfl (by (try simp only [List.map_toArray, List.map_cons, List.map_nil]); first | done | rfl) ?_
        refine (KC _).out.mono ?_
        rintro e_ w9 ⟨rfl, hb9⟩
        refine ⟨_, rfl, ?_⟩
        replace hX := keep_below hX hb9
        clear hb9
        refine hK.out _ _ hX (fun hHeld => ?_)
        clear hK K
        refine norm_ (a' := ?_) ?_ ?_
        rotate_left
        · first | (show Act.put _ (some 87) _ = _; simp only [Act.put, List.setIfInBounds_toArray, List.set_cons_zero, List.set_cons_succ, i64_w, i32_w]; rfl) | with_reducible rfl
        refine pure_ (i := 5) (N := some 88) (v := ?_) (a' := ?_) #[true, true, true, true, true, true, false, false, false, false, false, false, false, false, false, false, false, false, false, false, false] rfl rfl (any_of HT_.out (by kernel_rfl)) (fun _ _ _ h => h) (Or.inl ⟨by rfl, ?_⟩) ?_ ?_
        rotate_left
        · intro w'
          go_simp
          with_reducible rfl
        rotate_left
        · simp only [Act.put, List.setIfInBounds_toArray, List.set_cons_zero, List.set_cons_succ, i64_w, i32_w]
          rfl
        refine pure_ (i := 6) (N := some 89) (v := ?_) (a' := ?_) #[true, true, true, true, true, true, true, false, false, false, false, false, false, false, false, false, false, false, false, false, false] rfl rfl (any_of HT_.out (by kernel_rfl)) (fun _ _ _ h => h) (Or.inl ⟨by rfl, ?_⟩) ?_ ?_
        rotate_left
        · intro w'
          go_simp
          with_reducible rfl
        rotate_left
        · simp only [Act.put, List.setIfInBounds_toArray, List.set_cons_zero, List.set_cons_succ, i64_w, i32_w]
          rfl
        refine pure_ (i := 7) (N := some 90) (v := ?_) (a' := ?_) #[true, true, true, true, true, true, true, true, false, false, false, false, false, false, false, false, false, false, false, false, false] rfl rfl (any_of HT_.out (by kernel_rfl)) (fun _ _ _ h => h) (Or.inl ⟨by rfl, ?_⟩) ?_ ?_
        rotate_left
        · intro w'
          go_simp
          with_reducible rfl
        rotate_left
        · simp only [Act.put, List.setIfInBounds_toArray, List.set_cons_zero, List.set_cons_succ, i64_w, i32_w]
          rfl
        refine pure_ (i := 8) (N := some 91) (v := ?_) (a' := ?_) #[true, true, true, true, true, true, true, true, true, false, false, false, false, false, false, false, false, false, false, false, false] rfl rfl (any_of HT_.out (by kernel_rfl)) (fun _ _ _ h => h) (Or.inl ⟨by rfl, ?_⟩) ?_ ?_
        rotate_left
        · intro w'
          go_simp
          with_reducible rfl
        rotate_left
        · simp only [Act.put, List.setIfInBounds_toArray, List.set_cons_zero, List.set_cons_succ, i64_w, i32_w]
          rfl
        refine pure_ (i := 9) (N := some 92) (v := ?_) (a' := ?_) #[true, true, true, true, true, true, true, true, true, true, false, false, false, false, false, false, false, false, false, false, false] rfl rfl (any_of HT_.out (by kernel_rfl)) (fun _ _ _ h => h) (Or.inl ⟨by rfl, ?_⟩) ?_ ?_
        rotate_left
        · intro w'
          go_simp
          with_reducible rfl
        rotate_left
        · simp only [Act.put, List.setIfInBounds_toArray, List.set_cons_zero, List.set_cons_succ, i64_w, i32_w]
          rfl
        refine pure_ (i := 10) (N := some 93) (v := undef) (a' := ?_) #[true, true, true, true, true, true, true, true, true, true, true, false, false, false, false, false, false, false, false, false, false] rfl rfl (any_of HT_.out (by kernel_rfl)) (fun _ _ _ h => h) (Or.inr ⟨by rfl, rfl⟩) ?_ ?_
        rotate_left
        · simp only [Act.put, List.setIfInBounds_toArray, List.set_cons_zero, List.set_cons_succ]
          rfl
        refine pure_ (i := 11) (N := some 94) (v := undef) (a' := ?_) #[true, true, true, true, true, true, true, true, true, true, true, true, false, false, false, false, false, false, false, false, false] rfl rfl (any_of HT_.out (by kernel_rfl)) (fun _ _ _ h => h) (Or.inr ⟨by rfl, rfl⟩) ?_ ?_
        rotate_left
        · simp only [Act.put, List.setIfInBounds_toArray, List.set_cons_zero, List.set_cons_succ]
          rfl
        refine pure_ (i := 12) (N := some 95) (v := undef) (a' := ?_) #[true, true, true, true, true, true, true, true, true, true, true, true, true, false, false, false, false, false, false, false, false] rfl rfl (any_of HT_.out (by kernel_rfl)) (fun _ _ _ h => h) (Or.inr ⟨by rfl, rfl⟩) ?_ ?_
        rotate_left
        · simp only [Act.put, List.setIfInBounds_toArray, List.set_cons_zero, List.set_cons_succ]
          rfl
        refine pure_ (i := 13) (N := some 96) (v := undef) (a' := ?_) #[true, true, true, true, true, true, true, true, true, true, true, true, true, true, false, false, false, false, false, false, false] rfl rfl (any_of HT_.out (by kernel_rfl)) (fun _ _ _ h => h) (Or.inr ⟨by rfl, rfl⟩) ?_ ?_
        rotate_left
        · simp only [Act.put, List.setIfInBounds_toArray, List.set_cons_zero, List.set_cons_succ]
          rfl
        refine pure_ (i := 14) (N := some 97) (v := undef) (a' := ?_) #[true, true, true, true, true, true, true, true, true, true, true, true, true, true, true, false, false, false, false, false, false] rfl rfl (any_of HT_.out (by kernel_rfl)) (fun _ _ _ h => h) (Or.inr ⟨by rfl, rfl⟩) ?_ ?_
        rotate_left
        · simp only [Act.put, List.setIfInBounds_toArray, List.set_cons_zero, List.set_cons_succ]
          rfl
        refine pure_ (i := 15) (N := some 98) (v := undef) (a' := ?_) #[true, true, true, true, true, true, true, true, true, true, true, true, true, true, true, true, false, false, false, false, false] rfl rfl (any_of HT_.out (by kernel_rfl)) (fun _ _ _ h => h) (Or.inr ⟨by rfl, rfl⟩) ?_ ?_
        rotate_left
        · simp only [Act.put, List.setIfInBounds_toArray, List.set_cons_zero, List.set_cons_succ]
          rfl
        refine pure_ (i := 16) (N := some 99) (v := undef) (a' := ?_) #[true, true, true, true, true, true, true, true, true, true, true, true, true, true, true, true, true, false, false, false, false] rfl rfl (any_of HT_.out (by kernel_rfl)) (fun _ _ _ h => h) (Or.inr ⟨by rfl, rfl⟩) ?_ ?_
        rotate_left
        · simp only [Act.put, List.setIfInBounds_toArray, List.set_cons_zero, List.set_cons_succ]
          rfl
        refine pure_ (i := 17) (N := some 100) (v := undef) (a' := ?_) #[true, true, true, true, true, true, true, true, true, true, true, true, true, true, true, true, true, true, false, false, false] rfl rfl (any_of HT_.out (by kernel_rfl)) (fun _ _ _ h => h) (Or.inr ⟨by rfl, rfl⟩) ?_ ?_
        rotate_left
        · simp only [Act.put, List.setIfInBounds_toArray, List.set_cons_zero, List.set_cons_succ]
          rfl
        refine pure_ (i := 18) (N := some 101) (v := undef) (a' := ?_) #[true, true, true, true, true, true, true, true, true, true, true, true, true, true, true, true, true, true, true, false, false] rfl rfl (any_of HT_.out (by kernel_rfl)) (fun _ _ _ h => h) (Or.inr ⟨by rfl, rfl⟩) ?_ ?_
        rotate_left
        · simp only [Act.put, List.setIfInBounds_toArray, List.set_cons_zero, List.set_cons_succ]
          rfl
        refine pure_ (i := 19) (N := some 102) (v := ?_) (a' := ?_) #[true, true, true, true, true, true, true, true, true, true, true, true, true, true, true, true, true, true, true, true, false] rfl rfl (any_of HT_.out (by kernel_rfl)) (fun _ _ _ h => h) (Or.inl ⟨by rfl, ?_⟩) ?_ ?_
        rotate_left
        · intro w'
          go_simp
          with_reducible rfl
        rotate_left
        · simp only [Act.put, List.setIfInBounds_toArray, List.set_cons_zero, List.set_cons_succ, i64_w, i32_w]
          rfl
        refine pure_ (i := 20) (N := some 103) (v := ?_) (a' := ?_) #[true, true, true, true, true, true, true, true, true, true, true, true, true, true, true, true, true, true, true, true, true] rfl rfl (any_of HT_.out (by kernel_rfl)) (fun _ _ _ h => h) (Or.inl ⟨by rfl, ?_⟩) ?_ ?_
        rotate_left
        · intro w'
          go_simp
          with_reducible rfl
        rotate_left
        · simp only [Act.put, List.setIfInBounds_toArray, List.set_cons_zero, List.set_cons_succ, i64_w, i32_w]
          rfl
        have hY := hHeld
        refine done_ (done_of HT_.out (by kernel_rfl)) ?_
        clear hY hHeld
        have z9 := z13.keep hX
        have H9 := Lib.hid (HZ.out.below hX)
        clear k0 k1 k2 k3 k4 j3 j4 j5 j6
        have k0 := z9.cell 0
        have k1 := z9.cell 1
        have k2 := z9.cell 2
        have k3 := z9.cell 3
        have k4 := z9.cell 4
        have k5 := z9.cell 5
        have o0 := H9.out.b4.cell 0
        have o2 := H9.out.b4.cell 2
        have o3 := H9.out.b4.cell 3
        have o4 := H9.out.b4.cell 4
        have o5 := H9.out.b4.cell 5
        have o6 := H9.out.b4.cell 6
        have o7 := H9.out.b4.cell 7
        simp at k0 k1 k2 k3 k4 k5 o0 o2 o3 o4 o5 o6 o7
        by_cases hf : x.f0 = o.f2
        · have f1 : (x.f0 == o.f2) = true := beq_iff_eq.mpr hf
          by_cases h2 : o.f0 = 2
          · have hxe := HH.out.2.2.1 h2 x hmem hf
            have e1 : x.f1.f0 = o.f3.f0 := by rw [hxe]
            have e2 : x.f1.f1 = o.f3.f1 := by rw [hxe]
            have e3 : x.f1.f2 = o.f3.f2 := by rw [hxe]
            have e4 : x.f1.f3 = o.f3.f3 := by rw [hxe]
            have e5 : x.f2 = o.f4 := by rw [hxe]
            have f2 : (o.f0 == 2) = true := beq_iff_eq.mpr h2
            clear hf h2 hxe
            have HNx := HN.out
            rw [f1] at HNx
            cases b
            · go_wp2
              go_roundw
              case rel => exact ⟨i + 1, by rw [HNx]; rfl, by simp [hw], by omega, H9⟩
              case measure => simp [intOf, hw]; omega
            · go_wp2
              go_roundw
              case rel => exact ⟨i + 1, by rw [HNx]; rfl, by simp [hw], by omega, H9⟩
              case measure => simp [intOf, hw]; omega
          · have f2 : (o.f0 == 2) = false := beq_eq_false_iff_ne.mpr h2
            clear hf h2
            have HNx := HN.out
            rw [f1] at HNx
            cases b
            · go_wp2
              go_roundw
              case rel => exact ⟨i + 1, by rw [HNx]; rfl, by simp [hw], by omega, H9⟩
              case measure => simp [intOf, hw]; omega
            · go_wp2
              go_roundw
              case rel => exact ⟨i + 1, by rw [HNx]; rfl, by simp [hw], by omega, H9⟩
              case measure => simp [intOf, hw]; omega
        · have f1 : (x.f0 == o.f2) = false := beq_eq_false_iff_ne.mpr hf
          clear hf
          have HNx := HN.out
          rw [f1] at HNx
          cases b
          · go_wp2
            go_roundw
            case rel => exact ⟨i + 1, by rw [HNx]; rfl, by simp [hw], by omega, H9⟩
            case measure => simp [intOf, hw]; omega
          · go_wp2
            go_roundw
            case rel => exact ⟨i + 1, by rw [HNx]; rfl, by simp [hw], by omega, H9⟩
            case measure => simp [intOf, hw]; omega
    · have hie : i = L.length := by omega
      subst hie
      have hd : decide ((L.length : Int) < (L.length : Int)) = false := decide_eq_false (by omega)
      have o0 := HK.out.b4.cell 0
      have o3 := HK.out.b4.cell 3
      have o4 := HK.out.b4.cell 4
      have o5 := HK.out.b4.cell 5
      have o6 := HK.out.b4.cell 6
      have j3 := HK.out.b5.cell 3
      have j4 := HK.out.b5.cell 4
      have j5 := HK.out.b5.cell 5
      have j6 := HK.out.b5.cell 6
      have g3c := HK.out.b3.cell 0
      have g7c := HK.out.b7.cell 0
      simp at o0 o3 o4 o5 o6 j3 j4 j5 j6 g3c g7c
      obtain ⟨b, hb⟩ : ∃ b, toldR L o.f2 L.length = b := ⟨_, rfl⟩
      by_cases h2 : o.f0 = 2
      · obtain ⟨e1, e2⟩ := HH.out.2.2.2.1 h2
        rw [hb] at e1 ⊢
        have KC := key_call (rowP o.f2 o.f3.f0 o.f3.f1 o.f3.f2 o.f3.f3 o.f4) v.f3 e1 wr
        have f2 : (o.f0 == 2) = true := beq_iff_eq.mpr h2
        have hw2 := wrap_sm (z := (T.length : Int) + 1) (by omega) (by omega)
        have hlen : ((N.length : Int) == (T.length : Int) + 1) = true := by rw [e2]; simp
        have HE := Lib.hid e2
        clear h2 e1 e2 hb
        go_wp2_with (go_at_call 29; (with_reducible refine KC.out.mono ?_); rintro e w9 ⟨rfl, hb9⟩; have H9 := HK.out.below hb9; have g3d := H9.b3.cell 0; have g7d := H9.b7.cell 0; simp at g3d g7d)
        all_goals (go_ret; exact ⟨by simp, H9.hB⟩)
      · by_cases h3 : o.f0 = 3
        · obtain ⟨e1, e2⟩ := HH.out.2.2.2.2.1 h3
          rw [e1] at hb ⊢
          have f2 : (o.f0 == 2) = false := beq_eq_false_iff_ne.mpr h2
          have f3 : (o.f0 == 3) = true := beq_iff_eq.mpr h3
          have hw2 := wrap_sm (z := (T.length : Int) - 1) (by omega) (by omega)
          have hlen : ((N.length : Int) == (T.length : Int) - 1) = true := by rw [beq_iff_eq]; omega
          have HE := Lib.hid e2
          clear h2 h3 e1 e2 hb
          go_wp2
          all_goals (go_ret; exact ⟨by simp, HK.out.hB⟩)
        · obtain ⟨n9, h9⟩ := HH.out.2.2.2.2.2 h2 h3
          have H9 := Lib.hid h9
          have f2 : (o.f0 == 2) = false := beq_eq_false_iff_ne.mpr h2
          have f3 : (o.f0 == 3) = false := beq_eq_false_iff_ne.mpr h3
          clear h2 h3 h9 hb
          go_wp2_with (go_at_call 23; (with_reducible refine (same_call H9.out HK.out.t HK.out.n).out.mono ?_); rintro e w9 ⟨rfl, hb9⟩; have HF := HK.out.below hb9)
          go_ret
          exact ⟨rfl, HF.hB⟩
set_option maxHeartbeats 8000000 in
set_option maxRecDepth 100000 in
theorem keeps_box4 (A0 : Option Addr) (c0 : Nat) (l0 T : List S51) (o v : S38) (w : World) (hr0 : Kd.C k51 w A0 l0.length l0) (hc0 : l0.length ≤ c0) (hT : l0.take 129 = T) (N : List S51) (R : List S51) (h1 : ∃ k, model_Apply.f k T 1 o.f0 o.f1 o.f2 o.f3.f0 o.f3.f1 o.f3.f2 o.f3.f3 o.f4 = some (N, 0, 0, R, 0)) (h2 : ∃ k, model_Check.f k N = some 0) (h3 : ∃ k, model_Same.f k T N = some true) (h4 : o.f0 = 4) (L : List S51) (hL : L.length ≤ 1000) (hTl : T.length ≤ 1000) (h5 : ∃ k, model_Meets.f k N v.f3.f0 v.f3.f1 v.f3.f2 v.f3.f3 = some (L, 0)) (hr : riseR L) (hm : ∀ x ∈ L, meetB v.f3 x = true) (hi : o.f0 = 2 → ∀ x ∈ L, x.f0 = o.f2 → x = rowP o.f2 o.f3.f0 o.f3.f1 o.f3.f2 o.f3.f3 o.f4)
    (hend2 : o.f0 = 2 → meetB v.f3 (rowP o.f2 o.f3.f0 o.f3.f1 o.f3.f2 o.f3.f3 o.f4) = toldR L o.f2 L.length ∧ N.length = T.length + 1)
    (hend3 : o.f0 = 3 → toldR L o.f2 L.length = false ∧ N.length + 1 = T.length) (hend : ¬ o.f0 = 2 → ¬ o.f0 = 3 → ∃ k, model_Same.f k T N = some true) :
    Calls Try.prog 7 #[.agg #[.slice A0 l0.length c0], .agg #[.int .i64 o.f0, .bool o.f1, .int .u32 o.f2, .int .i64 o.f3.f0, .int .i64 o.f3.f1, .int .i64 o.f3.f2, .int .i64 o.f3.f3, .int .i64 o.f4], .agg #[.int .i64 v.f0, .bool v.f1, .int .u32 v.f2, .int .i64 v.f3.f0, .int .i64 v.f3.f1, .int .i64 v.f3.f2, .int .i64 v.f3.f3, .int .i64 v.f4]] w fun e w' => e = .returned (.bool true) ∧ Below w.heap.size w w' := by
  have H4 := Lib.hid h4
  clear h4
  have HE := Lib.hid (And.intro hr (And.intro hm (And.intro hi (And.intro hend2 (And.intro hend3 hend)))))
  clear hr hm hi hend2 hend3 hend
  obtain ⟨W0, hW0⟩ : ∃ W, (((w.alloc (.cells #[.slice A0 l0.length c0] 24)).alloc (.cells #[.int .i64 o.f0, .bool o.f1, .int .u32 o.f2, .int .i64 o.f3.f0, .int .i64 o.f3.f1, .int .i64 o.f3.f2, .int .i64 o.f3.f3, .int .i64 o.f4] 38)).alloc (.cells #[.int .i64 v.f0, .bool v.f1, .int .u32 v.f2, .int .i64 v.f3.f0, .int .i64 v.f3.f1, .int .i64 v.f3.f2, .int .i64 v.f3.f3, .int .i64 v.f4] 38)) = W := ⟨_, rfl⟩
  have p3 : Blk W0 w.heap.size 24 #[.slice A0 l0.length c0] := by rw [← hW0]; exact ((Blk.new w 24 _).alloc _).alloc _
  have p4 : Blk W0 (w.heap.size + 1) 38 #[.int .i64 o.f0, .bool o.f1, .int .u32 o.f2, .int .i64 o.f3.f0, .int .i64 o.f3.f1, .int .i64 o.f3.f2, .int .i64 o.f3.f3, .int .i64 o.f4] := by rw [← hW0]; exact Blk.alloc (Blk.newAt (by simp)) _
  have p5 : Blk W0 (w.heap.size + 1 + 1) 38 #[.int .i64 v.f0, .bool v.f1, .int .u32 v.f2, .int .i64 v.f3.f0, .int .i64 v.f3.f1, .int .i64 v.f3.f2, .int .i64 v.f3.f3, .int .i64 v.f4] := by rw [← hW0]; exact Blk.newAt (by simp)
  have hB0 : Below w.heap.size w W0 := by rw [← hW0]; exact keep_below_alloc _ (keep_below_alloc _ (keep_below_alloc _ (Below.refl _ _)))
  have hs0 : W0.heap.size = w.heap.size + 1 + 1 + 1 := by rw [← hW0]; simp
  have HW := Lib.hid hW0
  have HC := Lib.hid (Kd.C_below hr0 hB0)
  clear hW0 hr0
  go_enter Try.func7, Try.ntmps7
  go_upto_region 4 with (first
    | (go_at_call 13; rw [HW.out]; (with_reducible refine (wakes_call _).out.mono ?_); rintro e w1 ⟨rfl, hb1⟩; have q3 := p3.keep hb1; have q4 := p4.keep hb1; have q5 := p5.keep hb1; have hB1 := keep_below hB0 hb1; have g3 := q3.cell 0; simp at g3)
    | (go_at_call 14; (with_reducible refine (short_call hT (Kd.C_below HC.out hb1) hc0).out.mono ?_); rintro e w2 ⟨A1, c1, rfl, hO2, hb2⟩; have r3 := q3.keep hb2; have r4 := q4.keep hb2; have r5 := q5.keep hb2; have hB2 := keep_below hB1 hb2; have hs2 := hb1.size; clear g3; have g3 := r3.cell 0; have y3 := r3.frozen 0; simp at g3))
  have s3 : Blk (w2.setCell ⟨w.heap.size, 0, none⟩ (.slice A1 T.length c1)) w.heap.size 24 #[.slice A1 T.length c1] := by simpa using r3.set_ 0 (.slice A1 T.length c1)
  have s4 := r4.far (p := ⟨w.heap.size, 0, none⟩) (by simp) (.slice A1 T.length c1)
  have s5 := r5.far (p := ⟨w.heap.size, 0, none⟩) (by simp; omega) (.slice A1 T.length c1)
  have hB3 := hB2.setCell (p := ⟨w.heap.size, 0, none⟩) (Nat.le_refl _) (.slice A1 T.length c1)
  have hO3 := (hO2.far r3 (by decide) 0 (.slice A1 T.length c1)).weak (b' := w.heap.size + 1 + 1 + 1) (by omega)
  generalize (w2.setCell ⟨w.heap.size, 0, none⟩ (.slice A1 T.length c1)) = W3 at s3 s4 s5 hB3 hO3 ⊢
  clear hO2 r3 r4 r5 hB2 g3 y3 hb2 hb1 q3 q4 q5 hB1 hs2
  have g3 := s3.cell 0
  simp at g3
  have k0 := s4.cell 0
  have k1 := s4.cell 1
  have k2 := s4.cell 2
  have k3 := s4.cell 3
  have k4 := s4.cell 4
  have k5 := s4.cell 5
  have k6 := s4.cell 6
  have k7 := s4.cell 7
  simp at k0 k1 k2 k3 k4 k5 k6 k7
  obtain ⟨n1, h1⟩ := h1
  obtain ⟨n2, h2⟩ := h2
  have H1 := Lib.hid h1
  have H2 := Lib.hid h2
  clear h1 h2
  obtain ⟨n3, h3⟩ := h3
  have H3 := Lib.hid h3
  clear h3
  have z4 : (o.f0 == 4) = true := beq_iff_eq.mpr H4.out
  go_upto_region 5 with (go_at_call 21; (with_reducible refine (apply_call H1.out hO3).out.mono ?_); rintro e w5 ⟨A7, c7, A7', c7', rfl, O7, b7⟩; have hB5 := keep_below hB3 b7; have hO5 := hO3.below b7; have v3 := s3.keep b7; have v4 := s4.keep b7; have v5 := s5.keep b7)
  have v7 := (Blk.new w5 24 #[.slice A7 N.length c7]).alloc (.cells #[.int .i64 0, .int .u64 0, .slice A7' R.length c7'] 41)
  have v8 : Blk ((w5.alloc (.cells #[.slice A7 N.length c7] 24)).alloc (.cells #[.int .i64 0, .int .u64 0, .slice A7' R.length c7'] 41)) (w5.heap.size + 1) 41 #[.int .i64 0, .int .u64 0, .slice A7' R.length c7'] := Blk.newAt (by simp)
  have v3' := (v3.alloc (.cells #[.slice A7 N.length c7] 24)).alloc (.cells #[.int .i64 0, .int .u64 0, .slice A7' R.length c7'] 41)
  have v4' := (v4.alloc (.cells #[.slice A7 N.length c7] 24)).alloc (.cells #[.int .i64 0, .int .u64 0, .slice A7' R.length c7'] 41)
  have v5' := (v5.alloc (.cells #[.slice A7 N.length c7] 24)).alloc (.cells #[.int .i64 0, .int .u64 0, .slice A7' R.length c7'] 41)
  have hO6 := (hO5.alloc (.cells #[.slice A7 N.length c7] 24)).alloc (.cells #[.int .i64 0, .int .u64 0, .slice A7' R.length c7'] 41)
  have hN6 := (O7.alloc (.cells #[.slice A7 N.length c7] 24)).alloc (.cells #[.int .i64 0, .int .u64 0, .slice A7' R.length c7'] 41)
  have hBW6 := keep_below_alloc (.cells #[.int .i64 0, .int .u64 0, .slice A7' R.length c7'] 41) (keep_below_alloc (.cells #[.slice A7 N.length c7] 24) hB5)
  generalize ((w5.alloc (.cells #[.slice A7 N.length c7] 24)).alloc (.cells #[.int .i64 0, .int .u64 0, .slice A7' R.length c7'] 41)) = W6 at v7 v8 v3' v4' v5' hO6 hN6 hBW6 ⊢
  clear g3 k0 k1 k2 k3 k4 k5 k6 k7 s3 s4 s5 hO3 hB3 v3 v4 v5 hO5 hB5 O7 b7
  have g3 := v3'.cell 0
  have g7 := v7.cell 0
  have a0 := v8.cell 0
  have k0 := v4'.cell 0
  simp at g3 g7 a0 k0
  go_upto_region 9 with (first
    | (go_at_call 24; (with_reducible refine (check_call H2.out hN6).out.mono ?_); rintro e w7 ⟨rfl, b8⟩; have x3 := v3'.keep b8; have x4 := v4'.keep b8; have x5 := v5'.keep b8; have x7 := v7.keep b8; have x8 := v8.keep b8; have hO7 := hO6.below b8; have hN7 := hN6.below b8; have hB7 := keep_below hBW6 b8; clear g3 g7 a0 k0; have g3 := x3.cell 0; have g7 := x7.cell 0; have a0 := x8.cell 0; have k0 := x4.cell 0; simp at g3 g7 a0 k0)
    | (go_at_call 23; (with_reducible refine (same_call H3.out hO7 hN7).out.mono ?_); rintro e w8 ⟨rfl, b9⟩; have y3 := x3.keep b9; have y4 := x4.keep b9; have y5 := x5.keep b9; have y7 := x7.keep b9; have y8 := x8.keep b9; have hO8 := hO7.below b9; have hN8 := hN7.below b9; have hB8 := keep_below hB7 b9))
  clear g3 g7 a0 k0
  clear x3 x4 x5 x7 x8 hO7 hN7 hB7 v3' v4' v5' v7 v8 hO6 hN6 hBW6
  have a0 := y8.cell 0
  have g7 := y7.cell 0
  have j3 := y5.cell 3
  have j4 := y5.cell 4
  have j5 := y5.cell 5
  have j6 := y5.cell 6
  simp at a0 g7 j3 j4 j5 j6
  obtain ⟨n5, h5⟩ := h5
  have H5 := Lib.hid h5
  clear h5
  go_upto_region 12 with (go_at_call 25; (with_reducible refine (meets_call H5.out hN8).out.mono ?_); rintro e w9 ⟨A10, c10, rfl, O10, b10⟩; have HK9 := Lib.hid (And.intro (y3.keep b10) (And.intro (y4.keep b10) (And.intro (y5.keep b10) (And.intro (y7.keep b10) (And.intro (hO8.below b10) (And.intro (hN8.below b10) (keep_below hB8 b10))))))))
  rename_i K1 hK1 K0 hK0
  have HK1 := Lib.hid hK1
  clear hK1
  go_wp2
  refine HK1.out _ _ ?_
  obtain ⟨d3, d4, d5, d7, dt, dn, db⟩ := HK9.out
  obtain ⟨hr, hm, hi, hend2, hend3, hend⟩ := HE.out
  exact keeps_tail w _ w.heap.size (w.heap.size + 1) (w.heap.size + 1 + 1) w5.heap.size A1 A7 A10 c1 c7 c10 T N L o v ⟨d3, d4, d5, d7, dt.weak (Nat.zero_le _), dn.weak (Nat.zero_le _), O10.weak (Nat.zero_le _), db⟩ hL hTl hr hm hi hend2 hend3 hend _ _ _ _ _ _ _ _ _ _ _ _ _ _ _ _ _ _ _ _ _ _ _ _ _ _ _ _ _ _ _ _ _ _ _ _ _ _ _ _ _ _ _ _ _ _ _ _ _ _ _ _ _ _ _ _ _ _ _ _ _ _ _ _ _ _ _ _ _ _ _ _ _ _ _ _ _ _ _ _ _ _ _ _ _ _ _ _ _ _ _ _ _ _ _ _ _ _ _ _ _ _ _ _ _ _ _ _ _ _ _ _ _ _ _ _ _ _ _ _ _ _ _ _ _ _ _ _ _ _ _ _ _ _ _ _ _ _ _ _ _ _ _ _ _ _ _ _ _ _ _ _ _ _ _ _ _ _ _ _ _ _ _ _ _ _ _
set_option maxHeartbeats 8000000 in
set_option maxRecDepth 100000 in
theorem keeps_box (A0 : Option Addr) (c0 : Nat) (l0 T : List S51) (o v : S38) (w : World) (hr0 : Kd.C k51 w A0 l0.length l0) (hc0 : l0.length ≤ c0) (hT : l0.take 129 = T) (N : List S51) (h1 : ∃ k, model_Apply.f k T 1 o.f0 o.f1 o.f2 o.f3.f0 o.f3.f1 o.f3.f2 o.f3.f3 o.f4 = some (N, 0, 0, [], 0)) (h2 : ∃ k, model_Check.f k N = some 0) (h4 : ¬ o.f0 = 4) (L : List S51) (hL : L.length ≤ 1000) (hTl : T.length ≤ 1000) (h5 : ∃ k, model_Meets.f k N v.f3.f0 v.f3.f1 v.f3.f2 v.f3.f3 = some (L, 0)) (hr : riseR L) (hm : ∀ x ∈ L, meetB v.f3 x = true) (hi : o.f0 = 2 → ∀ x ∈ L, x.f0 = o.f2 → x = rowP o.f2 o.f3.f0 o.f3.f1 o.f3.f2 o.f3.f3 o.f4)
    (hend2 : o.f0 = 2 → meetB v.f3 (rowP o.f2 o.f3.f0 o.f3.f1 o.f3.f2 o.f3.f3 o.f4) = toldR L o.f2 L.length ∧ N.length = T.length + 1)
    (hend3 : o.f0 = 3 → toldR L o.f2 L.length = false ∧ N.length + 1 = T.length) (hend : ¬ o.f0 = 2 → ¬ o.f0 = 3 → ∃ k, model_Same.f k T N = some true) :
    Calls Try.prog 7 #[.agg #[.slice A0 l0.length c0], .agg #[.int .i64 o.f0, .bool o.f1, .int .u32 o.f2, .int .i64 o.f3.f0, .int .i64 o.f3.f1, .int .i64 o.f3.f2, .int .i64 o.f3.f3, .int .i64 o.f4], .agg #[.int .i64 v.f0, .bool v.f1, .int .u32 v.f2, .int .i64 v.f3.f0, .int .i64 v.f3.f1, .int .i64 v.f3.f2, .int .i64 v.f3.f3, .int .i64 v.f4]] w fun e w' => e = .returned (.bool true) ∧ Below w.heap.size w w' := by
  have H4 := Lib.hid h4
  clear h4
  have HE := Lib.hid (And.intro hr (And.intro hm (And.intro hi (And.intro hend2 (And.intro hend3 hend)))))
  clear hr hm hi hend2 hend3 hend
  obtain ⟨W0, hW0⟩ : ∃ W, (((w.alloc (.cells #[.slice A0 l0.length c0] 24)).alloc (.cells #[.int .i64 o.f0, .bool o.f1, .int .u32 o.f2, .int .i64 o.f3.f0, .int .i64 o.f3.f1, .int .i64 o.f3.f2, .int .i64 o.f3.f3, .int .i64 o.f4] 38)).alloc (.cells #[.int .i64 v.f0, .bool v.f1, .int .u32 v.f2, .int .i64 v.f3.f0, .int .i64 v.f3.f1, .int .i64 v.f3.f2, .int .i64 v.f3.f3, .int .i64 v.f4] 38)) = W := ⟨_, rfl⟩
  have p3 : Blk W0 w.heap.size 24 #[.slice A0 l0.length c0] := by rw [← hW0]; exact ((Blk.new w 24 _).alloc _).alloc _
  have p4 : Blk W0 (w.heap.size + 1) 38 #[.int .i64 o.f0, .bool o.f1, .int .u32 o.f2, .int .i64 o.f3.f0, .int .i64 o.f3.f1, .int .i64 o.f3.f2, .int .i64 o.f3.f3, .int .i64 o.f4] := by rw [← hW0]; exact Blk.alloc (Blk.newAt (by simp)) _
  have p5 : Blk W0 (w.heap.size + 1 + 1) 38 #[.int .i64 v.f0, .bool v.f1, .int .u32 v.f2, .int .i64 v.f3.f0, .int .i64 v.f3.f1, .int .i64 v.f3.f2, .int .i64 v.f3.f3, .int .i64 v.f4] := by rw [← hW0]; exact Blk.newAt (by simp)
  have hB0 : Below w.heap.size w W0 := by rw [← hW0]; exact keep_below_alloc _ (keep_below_alloc _ (keep_below_alloc _ (Below.refl _ _)))
  have hs0 : W0.heap.size = w.heap.size + 1 + 1 + 1 := by rw [← hW0]; simp
  have HW := Lib.hid hW0
  have HC := Lib.hid (Kd.C_below hr0 hB0)
  clear hW0 hr0
  go_enter Try.func7, Try.ntmps7
  go_upto_region 4 with (first
    | (go_at_call 13; rw [HW.out]; (with_reducible refine (wakes_call _).out.mono ?_); rintro e w1 ⟨rfl, hb1⟩; have q3 := p3.keep hb1; have q4 := p4.keep hb1; have q5 := p5.keep hb1; have hB1 := keep_below hB0 hb1; have g3 := q3.cell 0; simp at g3)
    | (go_at_call 14; (with_reducible refine (short_call hT (Kd.C_below HC.out hb1) hc0).out.mono ?_); rintro e w2 ⟨A1, c1, rfl, hO2, hb2⟩; have r3 := q3.keep hb2; have r4 := q4.keep hb2; have r5 := q5.keep hb2; have hB2 := keep_below hB1 hb2; have hs2 := hb1.size; clear g3; have g3 := r3.cell 0; have y3 := r3.frozen 0; simp at g3))
  have s3 : Blk (w2.setCell ⟨w.heap.size, 0, none⟩ (.slice A1 T.length c1)) w.heap.size 24 #[.slice A1 T.length c1] := by simpa using r3.set_ 0 (.slice A1 T.length c1)
  have s4 := r4.far (p := ⟨w.heap.size, 0, none⟩) (by simp) (.slice A1 T.length c1)
  have s5 := r5.far (p := ⟨w.heap.size, 0, none⟩) (by simp; omega) (.slice A1 T.length c1)
  have hB3 := hB2.setCell (p := ⟨w.heap.size, 0, none⟩) (Nat.le_refl _) (.slice A1 T.length c1)
  have hO3 := (hO2.far r3 (by decide) 0 (.slice A1 T.length c1)).weak (b' := w.heap.size + 1 + 1 + 1) (by omega)
  generalize (w2.setCell ⟨w.heap.size, 0, none⟩ (.slice A1 T.length c1)) = W3 at s3 s4 s5 hB3 hO3 ⊢
  clear hO2 r3 r4 r5 hB2 g3 y3 hb2 hb1 q3 q4 q5 hB1 hs2
  have g3 := s3.cell 0
  simp at g3
  have k0 := s4.cell 0
  have k1 := s4.cell 1
  have k2 := s4.cell 2
  have k3 := s4.cell 3
  have k4 := s4.cell 4
  have k5 := s4.cell 5
  have k6 := s4.cell 6
  have k7 := s4.cell 7
  simp at k0 k1 k2 k3 k4 k5 k6 k7
  obtain ⟨n1, h1⟩ := h1
  obtain ⟨n2, h2⟩ := h2
  have H1 := Lib.hid h1
  have H2 := Lib.hid h2
  clear h1 h2
  have z4 : (o.f0 == 4) = false := beq_eq_false_iff_ne.mpr H4.out
  go_upto_region 5 with (go_at_call 21; (with_reducible refine (apply_call H1.out hO3).out.mono ?_); rintro e w5 ⟨A7, c7, A7', c7', rfl, O7, b7⟩; have hB5 := keep_below hB3 b7; have hO5 := hO3.below b7; have v3 := s3.keep b7; have v4 := s4.keep b7; have v5 := s5.keep b7)
  have v7 := (Blk.new w5 24 #[.slice A7 N.length c7]).alloc (.cells #[.int .i64 0, .int .u64 0, .slice A7' 0 c7'] 41)
  have v8 : Blk ((w5.alloc (.cells #[.slice A7 N.length c7] 24)).alloc (.cells #[.int .i64 0, .int .u64 0, .slice A7' 0 c7'] 41)) (w5.heap.size + 1) 41 #[.int .i64 0, .int .u64 0, .slice A7' 0 c7'] := Blk.newAt (by simp)
  have v3' := (v3.alloc (.cells #[.slice A7 N.length c7] 24)).alloc (.cells #[.int .i64 0, .int .u64 0, .slice A7' 0 c7'] 41)
  have v4' := (v4.alloc (.cells #[.slice A7 N.length c7] 24)).alloc (.cells #[.int .i64 0, .int .u64 0, .slice A7' 0 c7'] 41)
  have v5' := (v5.alloc (.cells #[.slice A7 N.length c7] 24)).alloc (.cells #[.int .i64 0, .int .u64 0, .slice A7' 0 c7'] 41)
  have hO6 := (hO5.alloc (.cells #[.slice A7 N.length c7] 24)).alloc (.cells #[.int .i64 0, .int .u64 0, .slice A7' 0 c7'] 41)
  have hN6 := (O7.alloc (.cells #[.slice A7 N.length c7] 24)).alloc (.cells #[.int .i64 0, .int .u64 0, .slice A7' 0 c7'] 41)
  have hBW6 := keep_below_alloc (.cells #[.int .i64 0, .int .u64 0, .slice A7' 0 c7'] 41) (keep_below_alloc (.cells #[.slice A7 N.length c7] 24) hB5)
  generalize ((w5.alloc (.cells #[.slice A7 N.length c7] 24)).alloc (.cells #[.int .i64 0, .int .u64 0, .slice A7' 0 c7'] 41)) = W6 at v7 v8 v3' v4' v5' hO6 hN6 hBW6 ⊢
  clear g3 k0 k1 k2 k3 k4 k5 k6 k7 s3 s4 s5 hO3 hB3 v3 v4 v5 hO5 hB5 O7 b7
  have g3 := v3'.cell 0
  have g7 := v7.cell 0
  have a0 := v8.cell 0
  have k0 := v4'.cell 0
  simp at g3 g7 a0 k0
  go_upto_region 9 with (go_at_call 24; (with_reducible refine (check_call H2.out hN6).out.mono ?_); rintro e w7 ⟨rfl, b8⟩; have x3 := v3'.keep b8; have x4 := v4'.keep b8; have x5 := v5'.keep b8; have x7 := v7.keep b8; have x8 := v8.keep b8; have hO7 := hO6.below b8; have hN7 := hN6.below b8; have hB7 := keep_below hBW6 b8; clear g3 g7 a0 k0; have g3 := x3.cell 0; have g7 := x7.cell 0; have a0 := x8.cell 0; have k0 := x4.cell 0; simp at g3 g7 a0 k0)
  have y3 := x3
  have y4 := x4
  have y5 := x5
  have y7 := x7
  have y8 := x8
  have hO8 := hO7
  have hN8 := hN7
  have hB8 := hB7
  clear g3 g7 a0 k0
  clear x3 x4 x5 x7 x8 hO7 hN7 hB7 v3' v4' v5' v7 v8 hO6 hN6 hBW6
  have a0 := y8.cell 0
  have g7 := y7.cell 0
  have j3 := y5.cell 3
  have j4 := y5.cell 4
  have j5 := y5.cell 5
  have j6 := y5.cell 6
  simp at a0 g7 j3 j4 j5 j6
  obtain ⟨n5, h5⟩ := h5
  have H5 := Lib.hid h5
  clear h5
  go_upto_region 12 with (go_at_call 25; (with_reducible refine (meets_call H5.out hN8).out.mono ?_); rintro e w9 ⟨A10, c10, rfl, O10, b10⟩; have HK9 := Lib.hid (And.intro (y3.keep b10) (And.intro (y4.keep b10) (And.intro (y5.keep b10) (And.intro (y7.keep b10) (And.intro (hO8.below b10) (And.intro (hN8.below b10) (keep_below hB8 b10))))))))
  rename_i K1 hK1 K0 hK0
  have HK1 := Lib.hid hK1
  clear hK1
  go_wp2
  refine HK1.out _ _ ?_
  obtain ⟨d3, d4, d5, d7, dt, dn, db⟩ := HK9.out
  obtain ⟨hr, hm, hi, hend2, hend3, hend⟩ := HE.out
  exact keeps_tail w _ w.heap.size (w.heap.size + 1) (w.heap.size + 1 + 1) w5.heap.size A1 A7 A10 c1 c7 c10 T N L o v ⟨d3, d4, d5, d7, dt.weak (Nat.zero_le _), dn.weak (Nat.zero_le _), O10.weak (Nat.zero_le _), db⟩ hL hTl hr hm hi hend2 hend3 hend _ _ _ _ _ _ _ _ _ _ _ _ _ _ _ _ _ _ _ _ _ _ _ _ _ _ _ _ _ _ _ _ _ _ _ _ _ _ _ _ _ _ _ _ _ _ _ _ _ _ _ _ _ _ _ _ _ _ _ _ _ _ _ _ _ _ _ _ _ _ _ _ _ _ _ _ _ _ _ _ _ _ _ _ _ _ _ _ _ _ _ _ _ _ _ _ _ _ _ _ _ _ _ _ _ _ _ _ _ _ _ _ _ _ _ _ _ _ _ _ _ _ _ _ _ _ _ _ _ _ _ _ _ _ _ _ _ _ _ _ _ _ _ _ _ _ _ _ _ _ _ _ _ _ _ _ _ _ _ _ _ _ _ _ _ _ _
end Go.Proofs.Ytknlbfandkmeiaa.M
