/- What the row of this claim reaches. No condition. -/
import Derived.Test.YtknlbfandkmeiaaYMPure4
set_option linter.unusedVariables false
set_option linter.unusedSimpArgs false
namespace Go.Proofs.Ytknlbfandkmeiaa.M
open Go.RowKit Go.Proofs.YtknlbfandkmeiaaW.PrintWords Go.Proofs.YtknlbfandkmeiaaW.PrintLast Go.Proofs.YtknlbfandkmeiaaW.PrintMore
def OwnL (W : World) (base : Nat) (A : Option Addr) (c : Nat) (L : List S51) : Prop := W.ownsRow base 51 6 (.slice A L.length c) L.length (rowOf L)
section
variable {W W' : World} {base : Nat} {A : Option Addr} {c : Nat} {L : List S51}
theorem OwnL.C (h : OwnL W base A c L) : L.length ≤ c ∧ Kd.C k51 W A L.length L := by
  obtain ⟨A2, c2, e, h1, _, h2⟩ := C_of_row h
  injection e with e1 _ e3
  subst e1 e3
  exact ⟨h1, h2⟩
theorem OwnL.below (h : OwnL W base A c L) (hb : Below W.heap.size W W') : OwnL W' base A c L := own_mv h fun k hk => hb.block k (h.lt k hk).2
theorem OwnL.far {g : Nat} {t : TypeId} {cs : Array Value} (h : OwnL W base A c L) (b : Blk W g t cs) (ht : 51 ≠ t) (i : Nat) (u : Value) : OwnL (W.setCell ⟨g, i, none⟩ u) base A c L :=
  own_mv h fun k hk => Below.heap_setCell W ⟨g, i, none⟩ _ k (fun e => own_blk_ne h b ht (by rw [hk, e]))
theorem OwnL.alloc (h : OwnL W base A c L) (o : Obj) : OwnL (W.alloc o) base A c L := h.below (below_alloc (Below.refl _ _) o)
theorem OwnL.weak {b' : Nat} (h : OwnL W base A c L) (hb : b' ≤ base) : OwnL W b' A c L := own_weaken h hb
end
theorem apply_call {k : Nat} {L M R : List S51} {kind r c d e f v er tx e5 : Int} {b : Bool} (h : model_Apply.f k L 1 kind b r c d e f v = some (M, er, tx, R, e5)) {W : World} {base : Nat} {A : Option Addr} {cA : Nat} (hO : OwnL W base A cA L) :
    Hid (Calls Try.prog 21 #[.agg #[.slice A L.length cA], .int .i64 1, .agg #[.int .i64 kind, .bool b, .int .u32 r, .int .i64 c, .int .i64 d, .int .i64 e, .int .i64 f, .int .i64 v]] W fun e w' => ∃ A1 c1 A2 c2, e = .returned (.tuple #[.agg #[.slice A1 M.length c1], .agg #[.int .i64 er, .int .u64 tx, .slice A2 R.length c2], .int .i64 e5]) ∧ OwnL w' W.heap.size A1 c1 M ∧ Below W.heap.size W w') := by
  refine Lib.hid ((model_Apply.calls k A cA L 1 kind b r c d e f v M er tx R e5 W hO.C.2 hO.C.1 h).mono ?_)
  rintro e w' ⟨v0, v3, rfl, h0, h3, hb⟩
  have ho := row_of_R h0
  obtain ⟨A1, c1, rfl, _, _, _⟩ := C_of_row ho
  obtain ⟨A2, c2, rfl, _, _, _⟩ := C_of_row (row_of_R h3)
  exact ⟨A1, c1, A2, c2, rfl, ho, hb⟩
theorem same_call {k : Nat} {L M : List S51} {r : Bool} (h : model_Same.f k L M = some r) {W : World} {b1 b2 : Nat} {A1 A2 : Option Addr} {c1 c2 : Nat} (h1 : OwnL W b1 A1 c1 L) (h2 : OwnL W b2 A2 c2 M) :
    Hid (Calls Try.prog 23 #[.agg #[.slice A1 L.length c1], .agg #[.slice A2 M.length c2]] W fun e w' => e = .returned (.bool r) ∧ Below W.heap.size W w') :=
  Lib.hid (model_Same.calls k A1 c1 L A2 c2 M r W h1.C.2 h1.C.1 h2.C.2 h2.C.1 h)
theorem short_call {A0 : Option Addr} {c0 : Nat} {l0 T : List S51} (hT : l0.take 129 = T) {W : World} (hr0 : Kd.C k51 W A0 l0.length l0) (hc0 : l0.length ≤ c0) :
    Hid (Calls Try.prog 14 #[.agg #[.slice A0 l0.length c0]] W fun e w' => ∃ A1 c1, e = .returned (.agg #[.slice A1 T.length c1]) ∧ OwnL w' W.heap.size A1 c1 T ∧ Below W.heap.size W w') := by
  subst hT
  refine Lib.hid ((short_any A0 c0 l0 W hr0 hc0).mono ?_)
  rintro e w' ⟨g, cap, rfl, ho, hb⟩
  exact ⟨_, _, rfl, own_cut ho, hb⟩
theorem wakes_call (W : World) : Hid (Calls Try.prog 13 #[] W fun e w' => e = .returned (.bool true) ∧ Below W.heap.size W w') := by
  obtain ⟨k, h⟩ := Ev.rounds wakes_true
  exact Lib.hid (gazetteerlaw22_wakes.calls k true W h)
theorem delete_there {L : List S51} {r : Int} (h0 : ¬ r = 0) (ht : thR L r = true) (b c d e v : Int) : applyR L 1 3 r b c d e v = (L.filter (fun x => decide (¬ x.f0 = r)), 0, 0, []) := by
  unfold applyR
  simp only [show ¬ ((3 : Int) = 1 ∨ (3 : Int) = 5 ∨ (3 : Int) = 6) by omega, show ¬ (3 : Int) = 2 by omega, if_false, if_true, h0, ht]
theorem insert_new {L : List S51} {r b c d e : Int} (h0 : ¬ r = 0) (hb : boxF b c d e = true) (ht : thR L r = false) (hl : ¬ L.length = 128) (v : Int) : applyR L 1 2 r b c d e v = (insF (rowP r b c d e v) L, 0, 0, []) := by
  unfold applyR
  simp only [show ¬ ((2 : Int) = 1 ∨ (2 : Int) = 5 ∨ (2 : Int) = 6) by omega, if_false, if_true, h0, key_one, hb, ht, hl, Bool.false_eq_true]
set_option maxHeartbeats 8000000 in
set_option maxRecDepth 100000 in
theorem back_not (A0 : Option Addr) (c0 : Nat) (l0 T : List S51) (x0 x1 x2 x3 x4 x5 : Int) (w : World) (hr0 : Kd.C k51 w A0 l0.length l0) (hc0 : l0.length ≤ c0) (hT : l0.take 129 = T) (hno : ¬ okT T) (hTl : T.length ≤ 1000) :
    Calls Try.prog 5 #[.agg #[.slice A0 l0.length c0], .agg #[.int .u32 x0, .int .i64 x1, .int .i64 x2, .int .i64 x3, .int .i64 x4, .int .i64 x5]] w fun e w' => e = .returned (.bool true) ∧ Below w.heap.size w w' := by
  obtain ⟨W0, hW0⟩ : ∃ W, ((w.alloc (.cells #[.slice A0 l0.length c0] 24)).alloc (.cells #[.int .u32 x0, .int .i64 x1, .int .i64 x2, .int .i64 x3, .int .i64 x4, .int .i64 x5] 51)) = W := ⟨_, rfl⟩
  have p2 : Blk W0 w.heap.size 24 #[.slice A0 l0.length c0] := by rw [← hW0]; exact (Blk.new w 24 _).alloc _
  have p3 : Blk W0 (w.heap.size + 1) 51 #[.int .u32 x0, .int .i64 x1, .int .i64 x2, .int .i64 x3, .int .i64 x4, .int .i64 x5] := by rw [← hW0]; exact Blk.newAt (by simp)
  have hB0 : Below w.heap.size w W0 := by rw [← hW0]; exact keep_below_alloc _ (keep_below_alloc _ (Below.refl _ _))
  have hs0 : W0.heap.size = w.heap.size + 1 + 1 := by rw [← hW0]; simp
  have HW := Lib.hid hW0
  have HC := Lib.hid (Kd.C_below hr0 hB0)
  clear hW0 hr0
  go_enter Try.func5, Try.ntmps5
  go_upto_region 4 with (first
    | (go_at_call 13; rw [HW.out]; (with_reducible refine (wakes_call _).out.mono ?_); rintro e w1 ⟨rfl, hb1⟩; have q2 := p2.keep hb1; have q3 := p3.keep hb1; have hB1 := keep_below hB0 hb1; have g2 := q2.cell 0; simp at g2)
    | (go_at_call 14; (with_reducible refine (short_call hT (Kd.C_below HC.out hb1) hc0).out.mono ?_); rintro e w2 ⟨A1, c1, rfl, hO2, hb2⟩; have r2 := q2.keep hb2; have r3 := q3.keep hb2; have hB2 := keep_below hB1 hb2; have hs2 := hb1.size; clear g2; have g2 := r2.cell 0; have y2 := r2.frozen 0; simp at g2))
  have s2 : Blk (w2.setCell ⟨w.heap.size, 0, none⟩ (.slice A1 T.length c1)) w.heap.size 24 #[.slice A1 T.length c1] := by simpa using r2.set_ 0 (.slice A1 T.length c1)
  have s3 := r3.far (p := ⟨w.heap.size, 0, none⟩) (by simp) (.slice A1 T.length c1)
  have hB3 := hB2.setCell (p := ⟨w.heap.size, 0, none⟩) (Nat.le_refl _) (.slice A1 T.length c1)
  have hO3 := (hO2.far r2 (by decide) 0 (.slice A1 T.length c1)).weak (b' := w.heap.size + 1 + 1) (by omega)
  generalize (w2.setCell ⟨w.heap.size, 0, none⟩ (.slice A1 T.length c1)) = W3 at s2 s3 hB3 hO3 ⊢
  clear hO2 r2 r3 hB2 g2 y2 hb2 hb1 q2 q3 hB1 hs2
  have g0 := s3.cell 0
  have g1 := s3.cell 1
  have g2 := s3.cell 2
  have g3 := s3.cell 3
  have g4 := s3.cell 4
  have g5 := s3.cell 5
  simp at g0 g1 g2 g3 g4 g5
  have hl3 := s3.lt
  go_upto_region 5 with fail
  clear g0 g1 g2 g3 g4 g5
  have t5 := Blk.new W3 38 #[.int .i64 2, .bool false, .int .u32 x0, .int .i64 x1, .int .i64 x2, .int .i64 x3, .int .i64 x4, .int .i64 x5]
  have t2 := s2.alloc (.cells #[.int .i64 2, .bool false, .int .u32 x0, .int .i64 x1, .int .i64 x2, .int .i64 x3, .int .i64 x4, .int .i64 x5] 38)
  have t3 := s3.alloc (.cells #[.int .i64 2, .bool false, .int .u32 x0, .int .i64 x1, .int .i64 x2, .int .i64 x3, .int .i64 x4, .int .i64 x5] 38)
  have hB4 := keep_below_alloc (.cells #[.int .i64 2, .bool false, .int .u32 x0, .int .i64 x1, .int .i64 x2, .int .i64 x3, .int .i64 x4, .int .i64 x5] 38) hB3
  have hO4 := hO3.alloc (.cells #[.int .i64 2, .bool false, .int .u32 x0, .int .i64 x1, .int .i64 x2, .int .i64 x3, .int .i64 x4, .int .i64 x5] 38)
  have hg5 : w.heap.size + 1 < W3.heap.size := hl3
  generalize hge : W3.heap.size = g5 at t5 hg5 ⊢
  generalize W3.alloc (.cells #[.int .i64 2, .bool false, .int .u32 x0, .int .i64 x1, .int .i64 x2, .int .i64 x3, .int .i64 x4, .int .i64 x5] 38) = W4 at t2 t3 t5 hB4 hO4 ⊢
  clear s2 s3 hB3 hO3 hge hl3
  have g2 := t2.cell 0
  have k0 := t5.cell 0
  have k1 := t5.cell 1
  have k2 := t5.cell 2
  have k3 := t5.cell 3
  have k4 := t5.cell 4
  have k5 := t5.cell 5
  have k6 := t5.cell 6
  have k7 := t5.cell 7
  simp at g2 k0 k1 k2 k3 k4 k5 k6 k7
  obtain ⟨n1, h1⟩ := Ev.rounds (mapply_ev (L := T) hTl 2 false x0 x1 x2 x3 x4 x5)
  rw [if_neg hno] at h1
  have H1 := Lib.hid h1
  clear h1
  go_wp2_with (go_at_call 21; (with_reducible refine (apply_call H1.out hO4).out.mono ?_); rintro e w5 ⟨A3, c3, A3', c3', rfl, O3, b3⟩; have hB5 := keep_below hB4 b3; have hs5 := b3.size)
  go_ret
  exact ⟨rfl, keep_below_alloc _ (keep_below_alloc _ hB5)⟩
set_option maxHeartbeats 8000000 in
set_option maxRecDepth 100000 in
theorem back_refused (A0 : Option Addr) (c0 : Nat) (l0 T : List S51) (x0 x1 x2 x3 x4 x5 : Int) (w : World) (hr0 : Kd.C k51 w A0 l0.length l0) (hc0 : l0.length ≤ c0) (hT : l0.take 129 = T) (er : Int) (he : er ≠ 0) (h1 : ∃ k, model_Apply.f k T 1 2 false x0 x1 x2 x3 x4 x5 = some (T, er, 0, [], 0)) (h2 : ∃ k, model_Same.f k T T = some true) :
    Calls Try.prog 5 #[.agg #[.slice A0 l0.length c0], .agg #[.int .u32 x0, .int .i64 x1, .int .i64 x2, .int .i64 x3, .int .i64 x4, .int .i64 x5]] w fun e w' => e = .returned (.bool true) ∧ Below w.heap.size w w' := by
  obtain ⟨W0, hW0⟩ : ∃ W, ((w.alloc (.cells #[.slice A0 l0.length c0] 24)).alloc (.cells #[.int .u32 x0, .int .i64 x1, .int .i64 x2, .int .i64 x3, .int .i64 x4, .int .i64 x5] 51)) = W := ⟨_, rfl⟩
  have p2 : Blk W0 w.heap.size 24 #[.slice A0 l0.length c0] := by rw [← hW0]; exact (Blk.new w 24 _).alloc _
  have p3 : Blk W0 (w.heap.size + 1) 51 #[.int .u32 x0, .int .i64 x1, .int .i64 x2, .int .i64 x3, .int .i64 x4, .int .i64 x5] := by rw [← hW0]; exact Blk.newAt (by simp)
  have hB0 : Below w.heap.size w W0 := by rw [← hW0]; exact keep_below_alloc _ (keep_below_alloc _ (Below.refl _ _))
  have hs0 : W0.heap.size = w.heap.size + 1 + 1 := by rw [← hW0]; simp
  have HW := Lib.hid hW0
  have HC := Lib.hid (Kd.C_below hr0 hB0)
  clear hW0 hr0
  go_enter Try.func5, Try.ntmps5
  go_upto_region 4 with (first
    | (go_at_call 13; rw [HW.out]; (with_reducible refine (wakes_call _).out.mono ?_); rintro e w1 ⟨rfl, hb1⟩; have q2 := p2.keep hb1; have q3 := p3.keep hb1; have hB1 := keep_below hB0 hb1; have g2 := q2.cell 0; simp at g2)
    | (go_at_call 14; (with_reducible refine (short_call hT (Kd.C_below HC.out hb1) hc0).out.mono ?_); rintro e w2 ⟨A1, c1, rfl, hO2, hb2⟩; have r2 := q2.keep hb2; have r3 := q3.keep hb2; have hB2 := keep_below hB1 hb2; have hs2 := hb1.size; clear g2; have g2 := r2.cell 0; have y2 := r2.frozen 0; simp at g2))
  have s2 : Blk (w2.setCell ⟨w.heap.size, 0, none⟩ (.slice A1 T.length c1)) w.heap.size 24 #[.slice A1 T.length c1] := by simpa using r2.set_ 0 (.slice A1 T.length c1)
  have s3 := r3.far (p := ⟨w.heap.size, 0, none⟩) (by simp) (.slice A1 T.length c1)
  have hB3 := hB2.setCell (p := ⟨w.heap.size, 0, none⟩) (Nat.le_refl _) (.slice A1 T.length c1)
  have hO3 := (hO2.far r2 (by decide) 0 (.slice A1 T.length c1)).weak (b' := w.heap.size + 1 + 1) (by omega)
  generalize (w2.setCell ⟨w.heap.size, 0, none⟩ (.slice A1 T.length c1)) = W3 at s2 s3 hB3 hO3 ⊢
  clear hO2 r2 r3 hB2 g2 y2 hb2 hb1 q2 q3 hB1 hs2
  have g0 := s3.cell 0
  have g1 := s3.cell 1
  have g2 := s3.cell 2
  have g3 := s3.cell 3
  have g4 := s3.cell 4
  have g5 := s3.cell 5
  simp at g0 g1 g2 g3 g4 g5
  have hl3 := s3.lt
  go_upto_region 5 with fail
  clear g0 g1 g2 g3 g4 g5
  have t5 := Blk.new W3 38 #[.int .i64 2, .bool false, .int .u32 x0, .int .i64 x1, .int .i64 x2, .int .i64 x3, .int .i64 x4, .int .i64 x5]
  have t2 := s2.alloc (.cells #[.int .i64 2, .bool false, .int .u32 x0, .int .i64 x1, .int .i64 x2, .int .i64 x3, .int .i64 x4, .int .i64 x5] 38)
  have t3 := s3.alloc (.cells #[.int .i64 2, .bool false, .int .u32 x0, .int .i64 x1, .int .i64 x2, .int .i64 x3, .int .i64 x4, .int .i64 x5] 38)
  have hB4 := keep_below_alloc (.cells #[.int .i64 2, .bool false, .int .u32 x0, .int .i64 x1, .int .i64 x2, .int .i64 x3, .int .i64 x4, .int .i64 x5] 38) hB3
  have hO4 := hO3.alloc (.cells #[.int .i64 2, .bool false, .int .u32 x0, .int .i64 x1, .int .i64 x2, .int .i64 x3, .int .i64 x4, .int .i64 x5] 38)
  have hg5 : w.heap.size + 1 < W3.heap.size := hl3
  generalize hge : W3.heap.size = g5 at t5 hg5 ⊢
  generalize W3.alloc (.cells #[.int .i64 2, .bool false, .int .u32 x0, .int .i64 x1, .int .i64 x2, .int .i64 x3, .int .i64 x4, .int .i64 x5] 38) = W4 at t2 t3 t5 hB4 hO4 ⊢
  clear s2 s3 hB3 hO3 hge hl3
  have g2 := t2.cell 0
  have k0 := t5.cell 0
  have k1 := t5.cell 1
  have k2 := t5.cell 2
  have k3 := t5.cell 3
  have k4 := t5.cell 4
  have k5 := t5.cell 5
  have k6 := t5.cell 6
  have k7 := t5.cell 7
  simp at g2 k0 k1 k2 k3 k4 k5 k6 k7
  obtain ⟨n1, h1⟩ := h1
  obtain ⟨n2, h2⟩ := h2
  have H1 := Lib.hid h1
  have H2 := Lib.hid h2
  clear h1 h2
  have z1 : (er != 0) = true := bne_iff_ne.mpr he
  have z2 : (er == 0) = false := beq_eq_false_iff_ne.mpr he
  clear he
  go_upto_region 6 with (go_at_call 21; (with_reducible refine (apply_call H1.out hO4).out.mono ?_); rintro e w5 ⟨A3, c3, A3', c3', rfl, O3, b3⟩; have hB5 := keep_below hB4 b3; have hO5 := hO4.below b3; have v2 := t2.keep b3)
  have v6 := (Blk.new w5 24 #[.slice A3 T.length c3]).alloc (.cells #[.int .i64 er, .int .u64 0, .slice A3' 0 c3'] 41)
  have v7 : Blk ((w5.alloc (.cells #[.slice A3 T.length c3] 24)).alloc (.cells #[.int .i64 er, .int .u64 0, .slice A3' 0 c3'] 41)) (w5.heap.size + 1) 41 #[.int .i64 er, .int .u64 0, .slice A3' 0 c3'] := Blk.newAt (by simp)
  have v2' := (v2.alloc (.cells #[.slice A3 T.length c3] 24)).alloc (.cells #[.int .i64 er, .int .u64 0, .slice A3' 0 c3'] 41)
  have hO6 := (hO5.alloc (.cells #[.slice A3 T.length c3] 24)).alloc (.cells #[.int .i64 er, .int .u64 0, .slice A3' 0 c3'] 41)
  have hO6' := (O3.alloc (.cells #[.slice A3 T.length c3] 24)).alloc (.cells #[.int .i64 er, .int .u64 0, .slice A3' 0 c3'] 41)
  have hBW6 := keep_below_alloc (.cells #[.int .i64 er, .int .u64 0, .slice A3' 0 c3'] 41) (keep_below_alloc (.cells #[.slice A3 T.length c3] 24) hB5)
  generalize ((w5.alloc (.cells #[.slice A3 T.length c3] 24)).alloc (.cells #[.int .i64 er, .int .u64 0, .slice A3' 0 c3'] 41)) = W6 at v6 v7 v2' hO6 hO6' hBW6 ⊢
  have g2 := v2'.cell 0
  have g6 := v6.cell 0
  have g7 := v7.cell 0
  simp at g2 g6 g7
  go_wp2_with (go_at_call 23; (with_reducible refine (same_call H2.out hO6 hO6').out.mono ?_); rintro e w7 ⟨rfl, b7⟩)
  go_ret
  exact ⟨rfl, keep_below hBW6 b7⟩
set_option maxHeartbeats 8000000 in
set_option maxRecDepth 100000 in
theorem back_new (A0 : Option Addr) (c0 : Nat) (l0 T : List S51) (x0 x1 x2 x3 x4 x5 : Int) (w : World) (hr0 : Kd.C k51 w A0 l0.length l0) (hc0 : l0.length ≤ c0) (hT : l0.take 129 = T) (N : List S51) (hn : ∃ k, model_Apply.f k T 1 2 false x0 x1 x2 x3 x4 x5 = some (N, 0, 0, [], 0)) (hd : ∃ k, model_Apply.f k N 1 3 false x0 0 0 0 0 0 = some (T, 0, 0, [], 0)) (hs : ∃ k, model_Same.f k T T = some true) (hs2 : ∃ k, model_Same.f k T N = some false) (hTl : T.length ≤ 1000) (h1 : ∀ x ∈ T, ∃ M : List S51, (∃ k, model_Apply.f k T 1 3 false x.f0 0 0 0 0 0 = some (M, 0, 0, [], 0)) ∧ (∃ k, model_Apply.f k M 1 2 false x.f0 x.f1.f0 x.f1.f1 x.f1.f2 x.f1.f3 x.f2 = some (T, 0, 0, [], 0))) :
    Calls Try.prog 5 #[.agg #[.slice A0 l0.length c0], .agg #[.int .u32 x0, .int .i64 x1, .int .i64 x2, .int .i64 x3, .int .i64 x4, .int .i64 x5]] w fun e w' => e = .returned (.bool true) ∧ Below w.heap.size w w' := by
  obtain ⟨W0, hW0⟩ : ∃ W, ((w.alloc (.cells #[.slice A0 l0.length c0] 24)).alloc (.cells #[.int .u32 x0, .int .i64 x1, .int .i64 x2, .int .i64 x3, .int .i64 x4, .int .i64 x5] 51)) = W := ⟨_, rfl⟩
  have p2 : Blk W0 w.heap.size 24 #[.slice A0 l0.length c0] := by rw [← hW0]; exact (Blk.new w 24 _).alloc _
  have p3 : Blk W0 (w.heap.size + 1) 51 #[.int .u32 x0, .int .i64 x1, .int .i64 x2, .int .i64 x3, .int .i64 x4, .int .i64 x5] := by rw [← hW0]; exact Blk.newAt (by simp)
  have hB0 : Below w.heap.size w W0 := by rw [← hW0]; exact keep_below_alloc _ (keep_below_alloc _ (Below.refl _ _))
  have hs0 : W0.heap.size = w.heap.size + 1 + 1 := by rw [← hW0]; simp
  have HW := Lib.hid hW0
  have HC := Lib.hid (Kd.C_below hr0 hB0)
  clear hW0 hr0
  go_enter Try.func5, Try.ntmps5
  go_upto_region 4 with (first
    | (go_at_call 13; rw [HW.out]; (with_reducible refine (wakes_call _).out.mono ?_); rintro e w1 ⟨rfl, hb1⟩; have q2 := p2.keep hb1; have q3 := p3.keep hb1; have hB1 := keep_below hB0 hb1; have g2 := q2.cell 0; simp at g2)
    | (go_at_call 14; (with_reducible refine (short_call hT (Kd.C_below HC.out hb1) hc0).out.mono ?_); rintro e w2 ⟨A1, c1, rfl, hO2, hb2⟩; have r2 := q2.keep hb2; have r3 := q3.keep hb2; have hB2 := keep_below hB1 hb2; have hs2 := hb1.size; clear g2; have g2 := r2.cell 0; have y2 := r2.frozen 0; simp at g2))
  have s2 : Blk (w2.setCell ⟨w.heap.size, 0, none⟩ (.slice A1 T.length c1)) w.heap.size 24 #[.slice A1 T.length c1] := by simpa using r2.set_ 0 (.slice A1 T.length c1)
  have s3 := r3.far (p := ⟨w.heap.size, 0, none⟩) (by simp) (.slice A1 T.length c1)
  have hB3 := hB2.setCell (p := ⟨w.heap.size, 0, none⟩) (Nat.le_refl _) (.slice A1 T.length c1)
  have hO3 := (hO2.far r2 (by decide) 0 (.slice A1 T.length c1)).weak (b' := w.heap.size + 1 + 1) (by omega)
  generalize (w2.setCell ⟨w.heap.size, 0, none⟩ (.slice A1 T.length c1)) = W3 at s2 s3 hB3 hO3 ⊢
  clear hO2 r2 r3 hB2 g2 y2 hb2 hb1 q2 q3 hB1 hs2
  have g0 := s3.cell 0
  have g1 := s3.cell 1
  have g2 := s3.cell 2
  have g3 := s3.cell 3
  have g4 := s3.cell 4
  have g5 := s3.cell 5
  simp at g0 g1 g2 g3 g4 g5
  have hl3 := s3.lt
  go_upto_region 5 with fail
  clear g0 g1 g2 g3 g4 g5
  have t5 := Blk.new W3 38 #[.int .i64 2, .bool false, .int .u32 x0, .int .i64 x1, .int .i64 x2, .int .i64 x3, .int .i64 x4, .int .i64 x5]
  have t2 := s2.alloc (.cells #[.int .i64 2, .bool false, .int .u32 x0, .int .i64 x1, .int .i64 x2, .int .i64 x3, .int .i64 x4, .int .i64 x5] 38)
  have t3 := s3.alloc (.cells #[.int .i64 2, .bool false, .int .u32 x0, .int .i64 x1, .int .i64 x2, .int .i64 x3, .int .i64 x4, .int .i64 x5] 38)
  have hB4 := keep_below_alloc (.cells #[.int .i64 2, .bool false, .int .u32 x0, .int .i64 x1, .int .i64 x2, .int .i64 x3, .int .i64 x4, .int .i64 x5] 38) hB3
  have hO4 := hO3.alloc (.cells #[.int .i64 2, .bool false, .int .u32 x0, .int .i64 x1, .int .i64 x2, .int .i64 x3, .int .i64 x4, .int .i64 x5] 38)
  have hg5 : w.heap.size + 1 < W3.heap.size := hl3
  generalize hge : W3.heap.size = g5 at t5 hg5 ⊢
  generalize W3.alloc (.cells #[.int .i64 2, .bool false, .int .u32 x0, .int .i64 x1, .int .i64 x2, .int .i64 x3, .int .i64 x4, .int .i64 x5] 38) = W4 at t2 t3 t5 hB4 hO4 ⊢
  clear s2 s3 hB3 hO3 hge hl3
  have g2 := t2.cell 0
  have k0 := t5.cell 0
  have k1 := t5.cell 1
  have k2 := t5.cell 2
  have k3 := t5.cell 3
  have k4 := t5.cell 4
  have k5 := t5.cell 5
  have k6 := t5.cell 6
  have k7 := t5.cell 7
  simp at g2 k0 k1 k2 k3 k4 k5 k6 k7
  obtain ⟨n1, hn⟩ := hn
  obtain ⟨n2, hd⟩ := hd
  obtain ⟨n3, hs⟩ := hs
  obtain ⟨n4, hs2⟩ := hs2
  have H1 := Lib.hid hn
  have H2 := Lib.hid hd
  have H3 := Lib.hid hs
  have H4 := Lib.hid hs2
  have HL := Lib.hid h1
  clear hn hd hs hs2 h1
  go_upto_region 6 with (go_at_call 21; (with_reducible refine (apply_call H1.out hO4).out.mono ?_); rintro e w5 ⟨A6, c6, A6', c6', rfl, O6, b6⟩; have hB5 := keep_below hB4 b6; have hO5 := hO4.below b6; have v2 := t2.keep b6; have v3 := t3.keep b6)
  clear g2 k0 k1 k2 k3 k4 k5 k6 k7
  have v6 := (Blk.new w5 24 #[.slice A6 N.length c6]).alloc (.cells #[.int .i64 0, .int .u64 0, .slice A6' 0 c6'] 41)
  have v7 : Blk ((w5.alloc (.cells #[.slice A6 N.length c6] 24)).alloc (.cells #[.int .i64 0, .int .u64 0, .slice A6' 0 c6'] 41)) (w5.heap.size + 1) 41 #[.int .i64 0, .int .u64 0, .slice A6' 0 c6'] := Blk.newAt (by simp)
  have v2' := (v2.alloc (.cells #[.slice A6 N.length c6] 24)).alloc (.cells #[.int .i64 0, .int .u64 0, .slice A6' 0 c6'] 41)
  have v3' := (v3.alloc (.cells #[.slice A6 N.length c6] 24)).alloc (.cells #[.int .i64 0, .int .u64 0, .slice A6' 0 c6'] 41)
  have hO6 := (hO5.alloc (.cells #[.slice A6 N.length c6] 24)).alloc (.cells #[.int .i64 0, .int .u64 0, .slice A6' 0 c6'] 41)
  have hN6 := (O6.alloc (.cells #[.slice A6 N.length c6] 24)).alloc (.cells #[.int .i64 0, .int .u64 0, .slice A6' 0 c6'] 41)
  have hBW6 := keep_below_alloc (.cells #[.int .i64 0, .int .u64 0, .slice A6' 0 c6'] 41) (keep_below_alloc (.cells #[.slice A6 N.length c6] 24) hB5)
  generalize ((w5.alloc (.cells #[.slice A6 N.length c6] 24)).alloc (.cells #[.int .i64 0, .int .u64 0, .slice A6' 0 c6'] 41)) = W6 at v6 v7 v2' v3' hO6 hN6 hBW6 ⊢
  clear v2 v3 hO5 O6 hB5 b6
  have g2 := v2'.cell 0
  have g3 := v3'.cell 0
  have g6 := v6.cell 0
  have g7 := v7.cell 0
  simp at g2 g3 g6 g7
  go_upto_region 9 with (go_at_call 21; (with_reducible refine (apply_call H2.out hN6).out.mono ?_); rintro e w8 ⟨A9, c9, A9', c9', rfl, O9, b9⟩; have hB8 := keep_below hBW6 b9; have hO8 := hO6.below b9; have hN8 := hN6.below b9; have u2 := v2'.keep b9; have u6 := v6.keep b9)
  clear g2 g3 g6 g7
  have u9 := (Blk.new w8 24 #[.slice A9 T.length c9]).alloc (.cells #[.int .i64 0, .int .u64 0, .slice A9' 0 c9'] 41)
  have u10 : Blk ((w8.alloc (.cells #[.slice A9 T.length c9] 24)).alloc (.cells #[.int .i64 0, .int .u64 0, .slice A9' 0 c9'] 41)) (w8.heap.size + 1) 41 #[.int .i64 0, .int .u64 0, .slice A9' 0 c9'] := Blk.newAt (by simp)
  have u2' := (u2.alloc (.cells #[.slice A9 T.length c9] 24)).alloc (.cells #[.int .i64 0, .int .u64 0, .slice A9' 0 c9'] 41)
  have u6' := (u6.alloc (.cells #[.slice A9 T.length c9] 24)).alloc (.cells #[.int .i64 0, .int .u64 0, .slice A9' 0 c9'] 41)
  have hO9 := (hO8.alloc (.cells #[.slice A9 T.length c9] 24)).alloc (.cells #[.int .i64 0, .int .u64 0, .slice A9' 0 c9'] 41)
  have hN9 := (hN8.alloc (.cells #[.slice A9 T.length c9] 24)).alloc (.cells #[.int .i64 0, .int .u64 0, .slice A9' 0 c9'] 41)
  have hT9 := (O9.alloc (.cells #[.slice A9 T.length c9] 24)).alloc (.cells #[.int .i64 0, .int .u64 0, .slice A9' 0 c9'] 41)
  have hBW9 := keep_below_alloc (.cells #[.int .i64 0, .int .u64 0, .slice A9' 0 c9'] 41) (keep_below_alloc (.cells #[.slice A9 T.length c9] 24) hB8)
  generalize ((w8.alloc (.cells #[.slice A9 T.length c9] 24)).alloc (.cells #[.int .i64 0, .int .u64 0, .slice A9' 0 c9'] 41)) = W9 at u9 u10 u2' u6' hO9 hN9 hT9 hBW9 ⊢
  clear u2 u6 hO8 hN8 O9 hB8 b9 v2' v3' v6 v7 hO6 hN6
  have g2 := u2'.cell 0
  have g6 := u6'.cell 0
  have g9 := u9.cell 0
  have g10 := u10.cell 0
  simp at g2 g6 g9 g10
  go_upto_region 11 with (first
    | (go_at_call 23; (with_reducible refine (same_call H3.out hO9 hT9).out.mono ?_); rintro e w10 ⟨rfl, b10⟩; have x2 := u2'.keep b10; have x6 := u6'.keep b10; have hO10 := hO9.below b10; have hN10 := hN9.below b10; have hB10 := keep_below hBW9 b10; have f2 := x2.cell 0; have f6 := x6.cell 0; simp at f2 f6)
    | (go_at_call 23; (with_reducible refine (same_call H4.out hO10 hN10).out.mono ?_); rintro e w11 ⟨rfl, b11⟩; have y2 := x2.keep b11; have hO11 := hO10.below b11; have hB11 := keep_below hB10 b11; have e2 := y2.cell 0; simp at e2))
  clear g2 g6 g9 g10 f2 f6 b11 x2 x6 hO10 hN10 hB10 b10 u2' u6' u9 u10 hO9 hN9 hT9 hBW9
  have d0 : OwnL W9 w.heap.size A1 c1 T → True := fun _ => trivial
  clear d0
  go_wp2
  go_loopw [80] (fun v80 wr => ∃ i : Int, v80 = .int .i64 i ∧ 0 ≤ i ∧ i ≤ T.length ∧ Hid (Blk wr w.heap.size 24 #[.slice A1 T.length c1]) ∧ Hid (OwnL wr (w.heap.size + 1 + 1) A1 c1 T) ∧ Below w.heap.size w wr) (fun v80 _ => T.length - (intOf v80).toNat)
  case atStart => exact ⟨0, rfl, Int.le_refl _, by omega, Lib.hid y2, Lib.hid hO11, hB11⟩
  case round =>
    clear e2 y2 hO11 hB11
    obtain ⟨i, rfl, i0, i1, HY, HO, hB⟩ := hrel
    by_cases hlt : i < T.length
    · have hd : decide (i < (T.length : Int)) = true := decide_eq_true hlt
      have hw := wrap_sm (z := i + 1) (by omega) (by omega)
      obtain ⟨ad, rfl, x0', x1', x2', x3', x4', x5'⟩ := at_T51 HO.out.C.2 i i0 hlt
      have p0 : (0 ≤ i) = True := eq_true i0
      have p1 : (i < (T.length : Int)) = True := eq_true hlt
      have hmem : rd_T51 T i ∈ T := by
        have hl : i.toNat < T.length := by omega
        have : rd_T51 T i = T[i.toNat] := by unfold rd_T51; rw [List.getD_eq_getElem?_getD, List.getElem?_eq_getElem hl]; rfl
        rw [this]
        exact List.getElem_mem hl
      obtain ⟨M, ⟨m1, hm1⟩, ⟨m2, hm2⟩⟩ := HL.out _ hmem
      generalize hx : rd_T51 T i = x at *
      have M1 := Lib.hid hm1
      have M2 := Lib.hid hm2
      clear hm1 hm2 hmem
      go_upto_region 14 with fail
      have z12 := Blk.new wr 51 #[.int .u32 x.f0, .int .i64 x.f1.f0, .int .i64 x.f1.f1, .int .i64 x.f1.f2, .int .i64 x.f1.f3, .int .i64 x.f2]
      have z2 := HY.out.alloc (.cells #[.int .u32 x.f0, .int .i64 x.f1.f0, .int .i64 x.f1.f1, .int .i64 x.f1.f2, .int .i64 x.f1.f3, .int .i64 x.f2] 51)
      have zO := HO.out.alloc (.cells #[.int .u32 x.f0, .int .i64 x.f1.f0, .int .i64 x.f1.f1, .int .i64 x.f1.f2, .int .i64 x.f1.f3, .int .i64 x.f2] 51)
      have hBz := keep_below_alloc (.cells #[.int .u32 x.f0, .int .i64 x.f1.f0, .int .i64 x.f1.f1, .int .i64 x.f1.f2, .int .i64 x.f1.f3, .int .i64 x.f2] 51) hB
      generalize hge : wr.heap.size = g12 at z12 ⊢
      generalize wr.alloc (.cells #[.int .u32 x.f0, .int .i64 x.f1.f0, .int .i64 x.f1.f1, .int .i64 x.f1.f2, .int .i64 x.f1.f3, .int .i64 x.f2] 51) = Wa at z12 z2 zO hBz ⊢
      clear hge x0' x1' x2' x3' x4' x5'
      have g2 := z2.cell 0
      have k0 := z12.cell 0
      simp at g2 k0
      go_upto_region 15 with (go_at_call 21; (with_reducible refine (apply_call M1.out zO).out.mono ?_); rintro e wb ⟨A13, c13, A13', c13', rfl, O13, b13⟩; have hBb := keep_below hBz b13; have zOb := zO.below b13; have z2b := z2.keep b13; have z12b := z12.keep b13)
      clear g2 k0
      have v13 := (Blk.new wb 24 #[.slice A13 M.length c13]).alloc (.cells #[.int .i64 0, .int .u64 0, .slice A13' 0 c13'] 41)
      have v14 : Blk ((wb.alloc (.cells #[.slice A13 M.length c13] 24)).alloc (.cells #[.int .i64 0, .int .u64 0, .slice A13' 0 c13'] 41)) (wb.heap.size + 1) 41 #[.int .i64 0, .int .u64 0, .slice A13' 0 c13'] := Blk.newAt (by simp)
      have z2c := (z2b.alloc (.cells #[.slice A13 M.length c13] 24)).alloc (.cells #[.int .i64 0, .int .u64 0, .slice A13' 0 c13'] 41)
      have z12c := (z12b.alloc (.cells #[.slice A13 M.length c13] 24)).alloc (.cells #[.int .i64 0, .int .u64 0, .slice A13' 0 c13'] 41)
      have zOc := (zOb.alloc (.cells #[.slice A13 M.length c13] 24)).alloc (.cells #[.int .i64 0, .int .u64 0, .slice A13' 0 c13'] 41)
      have hMc := (O13.alloc (.cells #[.slice A13 M.length c13] 24)).alloc (.cells #[.int .i64 0, .int .u64 0, .slice A13' 0 c13'] 41)
      have hBWc := keep_below_alloc (.cells #[.int .i64 0, .int .u64 0, .slice A13' 0 c13'] 41) (keep_below_alloc (.cells #[.slice A13 M.length c13] 24) hBb)
      generalize ((wb.alloc (.cells #[.slice A13 M.length c13] 24)).alloc (.cells #[.int .i64 0, .int .u64 0, .slice A13' 0 c13'] 41)) = Wc at v13 v14 z2c z12c zOc hMc hBWc ⊢
      clear z2b z12b zOb O13 hBb b13 z2 z12 zO hBz
      have g14 := v14.cell 0
      have g13 := v13.cell 0
      have k0 := z12c.cell 0
      have k1 := z12c.cell 1
      have k2 := z12c.cell 2
      have k3 := z12c.cell 3
      have k4 := z12c.cell 4
      have k5 := z12c.cell 5
      simp at g14 g13 k0 k1 k2 k3 k4 k5
      go_upto_region 18 with (go_at_call 21; (with_reducible refine (apply_call M2.out hMc).out.mono ?_); rintro e wd ⟨A17, c17, A17', c17', rfl, O17, b17⟩; have hBd := keep_below hBWc b17; have zOd := zOc.below b17; have z2d := z2c.keep b17)
      clear g14 g13 k0 k1 k2 k3 k4 k5
      have v16 := (Blk.new wd 24 #[.slice A17 T.length c17]).alloc (.cells #[.int .i64 0, .int .u64 0, .slice A17' 0 c17'] 41)
      have v17 : Blk ((wd.alloc (.cells #[.slice A17 T.length c17] 24)).alloc (.cells #[.int .i64 0, .int .u64 0, .slice A17' 0 c17'] 41)) (wd.heap.size + 1) 41 #[.int .i64 0, .int .u64 0, .slice A17' 0 c17'] := Blk.newAt (by simp)
      have z2e := (z2d.alloc (.cells #[.slice A17 T.length c17] 24)).alloc (.cells #[.int .i64 0, .int .u64 0, .slice A17' 0 c17'] 41)
      have zOe := (zOd.alloc (.cells #[.slice A17 T.length c17] 24)).alloc (.cells #[.int .i64 0, .int .u64 0, .slice A17' 0 c17'] 41)
      have hTe := (O17.alloc (.cells #[.slice A17 T.length c17] 24)).alloc (.cells #[.int .i64 0, .int .u64 0, .slice A17' 0 c17'] 41)
      have hBWe := keep_below_alloc (.cells #[.int .i64 0, .int .u64 0, .slice A17' 0 c17'] 41) (keep_below_alloc (.cells #[.slice A17 T.length c17] 24) hBd)
      generalize ((wd.alloc (.cells #[.slice A17 T.length c17] 24)).alloc (.cells #[.int .i64 0, .int .u64 0, .slice A17' 0 c17'] 41)) = We at v16 v17 z2e zOe hTe hBWe ⊢
      clear z2d zOd O17 hBd b17 z2c z12c zOc hMc hBWc v13 v14
      have g17 := v17.cell 0
      have g16 := v16.cell 0
      have g2 := z2e.cell 0
      simp at g17 g16 g2
      go_wp2_with (go_at_call 23; (with_reducible refine (same_call H3.out zOe hTe).out.mono ?_); rintro e wf ⟨rfl, bf⟩; have z2f := z2e.keep bf; have zOf := zOe.below bf; have hBf := keep_below hBWe bf)
      go_roundw
      case rel => exact ⟨i + 1, by simp [hw], by omega, by omega, Lib.hid z2f, Lib.hid zOf, hBf⟩
      case measure => simp [intOf, hw]; omega
    · have hd : decide (i < (T.length : Int)) = false := decide_eq_false hlt
      go_wp2
      go_ret
      exact ⟨rfl, hB⟩
end Go.Proofs.Ytknlbfandkmeiaa.M
