/- What the row of this claim reaches. No condition. -/
import Derived.Test.YtknlbfandkmeiaaJMBack
set_option linter.unusedVariables false
set_option linter.unusedSimpArgs false
namespace Go.Proofs.Ytknlbfandkmeiaa.M
open Go.RowKit Go.Proofs.YtknlbfandkmeiaaW.PrintWords Go.Proofs.YtknlbfandkmeiaaW.PrintLast Go.Proofs.YtknlbfandkmeiaaW.PrintMore
attribute [local go_sem high] eqA51
def h77 : S51 := ⟨77, ⟨0, 0, 0, 0⟩, 0⟩
def OwnH (W : World) (base : Nat) (g c : Nat) (L : List S51) : Prop := W.ownsRow base 51 6 (.slice (some ⟨g, 0, none⟩) (L.length + 1) c) (L.length + 1) (rowOf (L ++ [h77]))
theorem OwnH.L {W : World} {base g c : Nat} {L : List S51} (h : OwnH W base g c L) : OwnL W base (some ⟨g, 0, none⟩) c L := own_cut h
theorem OwnH.mv {W W' : World} {base g c : Nat} {L : List S51} (h : OwnH W base g c L) (hm : W'.heap[g]? = W.heap[g]?) : OwnH W' base g c L := own_mv h fun k hk => by
  have : g = k := by simpa [Value.ownBlock] using hk
  subst this
  exact hm
theorem OwnH.below {W W' : World} {base g c : Nat} {L : List S51} (h : OwnH W base g c L) (hb : Below W.heap.size W W') : OwnH W' base g c L := own_mv h fun k hk => hb.block k (h.lt k hk).2
theorem OwnH.cell {W : World} {base g c : Nat} {L : List S51} (h : OwnH W base g c L) (j : Nat) (u : Value) (hu : (cellsOf h77)[j]? = some u) : W.cell? ⟨g, L.length * 6 + j, none⟩ = some u := by
  have hc := h.cells (g := g) rfl (L.length * 6 + j) u (by rw [rowOf_snoc, List.getElem?_append_right (by rw [rowOf_len]; omega), rowOf_len, show L.length * 6 + j - L.length * 6 = j by omega]; exact hu)
  rwa [add_lit0] at hc
def whr.T1 : Bool × List (List Nat × List Nat) := (true, [([], []), ([0], [0]), ([], []), ([2], [2]), ([1, 3], [1, 3]), ([4, 4], [4]), ([5], [5]), ([6, 5], [5, 6]), ([5], [5]), ([8, 5], [5, 8]), ([9, 5], [5, 9]), ([10, 5], [5, 10]), ([7, 11, 5], [5, 7, 11]), ([5], [5]), ([13, 5], [5, 13]), ([14, 5], [5, 14]), ([12, 15, 5], [5, 12, 15]), ([16, 5], [5, 16]), ([5], [5]), ([17, 18, 5], [5, 17, 18]), ([5, 19], [5, 19]), ([20, 5, 0, 1, 2, 3, 4, 5, 6, 7, 8, 9, 10, 11, 12, 13, 14, 15, 16, 17, 18, 19, 20], [20])])
def whr.B1 : List Nat := [0, 1, 0, 4, 15, 31, 63, 127, 63, 319, 831, 1855, 4095, 63, 8255, 24639, 65535, 131071, 63, 524287, 1048575, 2097151]
theorem whr.tab1 : rtab .any (opsOf Try.f22 1) = whr.T1 := by kernel_rfl
theorem whr.bits1 : waitsOk whr.T1.2 whr.B1 = true := by kernel_rfl
set_option maxHeartbeats 8000000 in
set_option maxRecDepth 100000 in
theorem whole_call {L : List S51} {W : World} {b1 b2 g c c2 : Nat} {A2 : Option Addr} (hL : L.length ≤ 1000) (h1 : OwnH W b1 g c L) (h2 : OwnL W b2 A2 c2 L) :
    Hid (Calls Try.prog 22 #[.agg #[.slice (some ⟨g, 0, none⟩) L.length c], .agg #[.slice A2 L.length c2]] W fun e w' => e = .returned (.bool true) ∧ Below W.heap.size W w') := by
  obtain ⟨k, hk⟩ := Ev.rounds (same_ev (L := L) hL)
  have hcap : L.length + 1 ≤ c := own_le h1
  have hc63 : c ≤ 9223372036854775807 := by
    rcases h1.2 with ⟨h, _⟩ | ⟨g', cap, cur, hv, _, _, _, h, _⟩
    · cases h
    · injection hv with _ _ h3
      subst h3
      unfold maxLen at h
      omega
  have hw := wrap_sm (z := (L.length : Int) + 1) (by omega) (by omega)
  have q1 : ((L.length : Int) + 1 ≤ (c : Int)) = True := eq_true (by omega)
  have q2 : (0 ≤ (L.length : Int) + 1) = True := eq_true (by omega)
  have q3 : ((L.length : Int) < (L.length : Int) + 1) = True := eq_true (by omega)
  obtain ⟨W0, hW0⟩ : ∃ W0, ((W.alloc (.cells #[.slice (some ⟨g, 0, none⟩) L.length c] 24)).alloc (.cells #[.slice A2 L.length c2] 24)) = W0 := ⟨_, rfl⟩
  have p2 : Blk W0 W.heap.size 24 #[.slice (some ⟨g, 0, none⟩) L.length c] := by rw [← hW0]; exact (Blk.new W 24 _).alloc _
  have p3 : Blk W0 (W.heap.size + 1) 24 #[.slice A2 L.length c2] := by rw [← hW0]; exact Blk.newAt (by simp)
  have hB0 : Below W.heap.size W W0 := by rw [← hW0]; exact keep_below_alloc _ (keep_below_alloc _ (Below.refl _ _))
  have hH := h1.below hB0
  have hS := fun W' (hb : Below W0.heap.size W0 W') => Lib.hid ((gazetteerref22_SameRows.calls k (some ⟨g, 0, none⟩) c L A2 c2 L true W' ((h1.below hB0).below hb).L.C.2 h1.L.C.1 ((h2.below hB0).below hb).C.2 h2.C.1 hk).mono fun _ _ h => And.intro h.1 h.2.below)
  have k0 := p2.cell 0
  have k1 := p3.cell 0
  simp at k0 k1
  have y0 := hH.cell 0 _ rfl
  have y1 := hH.cell 1 _ rfl
  have y2 := hH.cell 2 _ rfl
  have y3 := hH.cell 3 _ rfl
  have y4 := hH.cell 4 _ rfl
  have y5 := hH.cell 5 _ rfl
  simp only [h77] at y0 y1 y2 y3 y4 y5
  rw [Nat.add_zero] at y0
  clear h1 h2 hk p2 p3 hH
  refine Lib.hid ?_
  go_enter Try.func22, Try.ntmps22
  go_upto_region 1 with fail
  clear hW0
  refine start_ (n := 22) (S := (fun w' => Below W0.heap.size W0 w')) (ds := []) #[false, false, false, false, false, false, false, false, false, false, false, false, false, false, false, false, false, false, false, false, false, false] (by kernel_rfl) rfl rfl (Below.drew (Below.refl _ _)) (fun hHeld => ?_)
  refine with_tabW whr.tab1 whr.bits1 (fun HT_ HW_ => ?_)
  refine pure_ (i := 0) (N := some 5) (v := ?_) (a' := ?_) #[true, false, false, false, false, false, false, false, false, false, false, false, false, false, false, false, false, false, false, false, false, false] rfl rfl (any_of HT_.out (by kernel_rfl)) (fun _ _ _ h => h) (Or.inl ⟨by rfl, ?_⟩) ?_ ?_
  rotate_left
  · intro w'
    go_simp
    with_reducible rfl
  rotate_left
  · simp only [Act.put, List.setIfInBounds_toArray, List.set_cons_zero, List.set_cons_succ, i64_w, i32_w]
    rfl
  refine take_ (i := 1) (N := some 6) (v := ?_) (a' := ?_) #[true, true, false, false, false, false, false, false, false, false, false, false, false, false, false, false, false, false, false, false, false, false] rfl rfl (take_ofW HT_.out HW_.out (by kernel_rfl)) (fun _ _ _ h => h) (Or.inl ⟨by rfl, ?_⟩) hHeld ?_ ?_
  rotate_left
  · rintro w' s0
    have m0 := keep_cell s0 k0
    have m1 := keep_cell s0 k1
    have z0 := keep_cell s0 y0
    have z1 := keep_cell s0 y1
    have z2 := keep_cell s0 y2
    have z3 := keep_cell s0 y3
    have z4 := keep_cell s0 y4
    have z5 := keep_cell s0 y5
    go_simp
    with_reducible rfl
  rotate_left
  · simp only [Act.put, List.setIfInBounds_toArray, List.set_cons_zero, List.set_cons_succ, i64_w, i32_w]
    rfl
  refine pure_ (i := 2) (N := some 7) (v := ?_) (a' := ?_) #[true, true, true, false, false, false, false, false, false, false, false, false, false, false, false, false, false, false, false, false, false, false] rfl rfl (any_of HT_.out (by kernel_rfl)) (fun _ _ _ h => h) (Or.inl ⟨by rfl, ?_⟩) ?_ ?_
  rotate_left
  · intro w'
    go_simp
    with_reducible rfl
  rotate_left
  · simp only [Act.put, List.setIfInBounds_toArray, List.set_cons_zero, List.set_cons_succ, i64_w, i32_w]
    rfl
  refine take_ (i := 3) (N := some 8) (v := ?_) (a' := ?_) #[true, true, true, true, false, false, false, false, false, false, false, false, false, false, false, false, false, false, false, false, false, false] rfl rfl (take_ofW HT_.out HW_.out (by kernel_rfl)) (fun _ _ _ h => h) (Or.inl ⟨by rfl, ?_⟩) hHeld ?_ ?_
  rotate_left
  · rintro w' s0
    have m0 := keep_cell s0 k0
    have m1 := keep_cell s0 k1
    have z0 := keep_cell s0 y0
    have z1 := keep_cell s0 y1
    have z2 := keep_cell s0 y2
    have z3 := keep_cell s0 y3
    have z4 := keep_cell s0 y4
    have z5 := keep_cell s0 y5
    go_simp
    with_reducible rfl
  rotate_left
  · simp only [Act.put, List.setIfInBounds_toArray, List.set_cons_zero, List.set_cons_succ, i64_w, i32_w]
    rfl
  have hX := hHeld
  refine one_ (i := 4) (N := some 9) #[true, true, true, true, true, false, false, false, false, false, false, false, false, false, false, false, false, false, false, false, false, false] rfl rfl (one_of HT_.out (by kernel_rfl)) (by decide) (fun K hK => ?_)
  refine goes_ Try.func20 (by kernel_rfl) rfl #[.slice (some ⟨g, 0, none⟩) L.length c, .slice A2 L.length c2] (by rfl) rfl rfl (by (try simp only [List.map_toArray, List.map_cons, List.map_nil]); first | done | rfl) ?_
  refine (hS _ hX).out.mono ?_
  rintro e_ w9 ⟨rfl, hb9⟩
  refine ⟨_, rfl, ?_⟩
  replace hX := keep_below hX hb9
  clear hb9
  refine hK.out _ _ hX (fun hHeld => ?_)
  clear hK K
  refine norm_ (a' := ?_) ?_ ?_
  rotate_left
  · first | (show Act.put _ (some 9) _ = _; simp only [Act.put, List.setIfInBounds_toArray, List.set_cons_zero, List.set_cons_succ, i64_w, i32_w]; rfl) | with_reducible rfl
  refine pure_ (i := 5) (N := some 10) (v := ?_) (a' := ?_) #[true, true, true, true, true, true, false, false, false, false, false, false, false, false, false, false, false, false, false, false, false, false] rfl rfl (any_of HT_.out (by kernel_rfl)) (fun _ _ _ h => h) (Or.inl ⟨by rfl, ?_⟩) ?_ ?_
  rotate_left
  · intro w'
    go_simp
    with_reducible rfl
  rotate_left
  · simp only [Act.put, List.setIfInBounds_toArray, List.set_cons_zero, List.set_cons_succ, i64_w, i32_w]
    rfl
  refine pure_ (i := 6) (N := some 11) (v := ?_) (a' := ?_) #[true, true, true, true, true, true, true, false, false, false, false, false, false, false, false, false, false, false, false, false, false, false] rfl rfl (any_of HT_.out (by kernel_rfl)) (fun _ _ _ h => h) (Or.inl ⟨by rfl, ?_⟩) ?_ ?_
  rotate_left
  · intro w'
    go_simp
    with_reducible rfl
  rotate_left
  · simp only [Act.put, List.setIfInBounds_toArray, List.set_cons_zero, List.set_cons_succ, i64_w, i32_w]
    rfl
  refine take_ (i := 7) (N := some 12) (v := ?_) (a' := ?_) #[true, true, true, true, true, true, true, true, false, false, false, false, false, false, false, false, false, false, false, false, false, false] rfl rfl (take_ofW HT_.out HW_.out (by kernel_rfl)) (fun _ _ _ h => h) (Or.inl ⟨by rfl, ?_⟩) hHeld ?_ ?_
  rotate_left
  · rintro w' s0
    have m0 := keep_cell s0 k0
    have m1 := keep_cell s0 k1
    have z0 := keep_cell s0 y0
    have z1 := keep_cell s0 y1
    have z2 := keep_cell s0 y2
    have z3 := keep_cell s0 y3
    have z4 := keep_cell s0 y4
    have z5 := keep_cell s0 y5
    go_simp
    with_reducible rfl
  rotate_left
  · simp only [Act.put, List.setIfInBounds_toArray, List.set_cons_zero, List.set_cons_succ, i64_w, i32_w]
    rfl
  refine pure_ (i := 8) (N := some 13) (v := ?_) (a' := ?_) #[true, true, true, true, true, true, true, true, true, false, false, false, false, false, false, false, false, false, false, false, false, false] rfl rfl (any_of HT_.out (by kernel_rfl)) (fun _ _ _ h => h) (Or.inl ⟨by rfl, ?_⟩) ?_ ?_
  rotate_left
  · intro w'
    go_simp
    with_reducible rfl
  rotate_left
  · simp only [Act.put, List.setIfInBounds_toArray, List.set_cons_zero, List.set_cons_succ, i64_w, i32_w]
    rfl
  refine take_ (i := 9) (N := some 14) (v := ?_) (a' := ?_) #[true, true, true, true, true, true, true, true, true, true, false, false, false, false, false, false, false, false, false, false, false, false] rfl rfl (take_ofW HT_.out HW_.out (by kernel_rfl)) (fun _ _ _ h => h) (Or.inl ⟨by rfl, ?_⟩) hHeld ?_ ?_
  rotate_left
  · rintro w' s0
    have m0 := keep_cell s0 k0
    have m1 := keep_cell s0 k1
    have z0 := keep_cell s0 y0
    have z1 := keep_cell s0 y1
    have z2 := keep_cell s0 y2
    have z3 := keep_cell s0 y3
    have z4 := keep_cell s0 y4
    have z5 := keep_cell s0 y5
    go_simp
    with_reducible rfl
  rotate_left
  · simp only [Act.put, List.setIfInBounds_toArray, List.set_cons_zero, List.set_cons_succ, i64_w, i32_w]
    rfl
  refine pure_ (i := 10) (N := some 15) (v := ?_) (a' := ?_) #[true, true, true, true, true, true, true, true, true, true, true, false, false, false, false, false, false, false, false, false, false, false] rfl rfl (any_of HT_.out (by kernel_rfl)) (fun _ _ _ h => h) (Or.inl ⟨by rfl, ?_⟩) ?_ ?_
  rotate_left
  · intro w'
    go_simp
    with_reducible rfl
  rotate_left
  · simp only [Act.put, List.setIfInBounds_toArray, List.set_cons_zero, List.set_cons_succ, i64_w, i32_w]
    rfl
  refine pure_ (i := 11) (N := some 16) (v := ?_) (a' := ?_) #[true, true, true, true, true, true, true, true, true, true, true, true, false, false, false, false, false, false, false, false, false, false] rfl rfl (any_of HT_.out (by kernel_rfl)) (fun _ _ _ h => h) (Or.inl ⟨by rfl, ?_⟩) ?_ ?_
  rotate_left
  · intro w'
    go_simp
    with_reducible rfl
  rotate_left
  · simp only [Act.put, List.setIfInBounds_toArray, List.set_cons_zero, List.set_cons_succ, i64_w, i32_w]
    rfl
  refine pure_ (i := 12) (N := some 17) (v := ?_) (a' := ?_) #[true, true, true, true, true, true, true, true, true, true, true, true, true, false, false, false, false, false, false, false, false, false] rfl rfl (any_of HT_.out (by kernel_rfl)) (fun _ _ _ h => h) (Or.inl ⟨by rfl, ?_⟩) ?_ ?_
  rotate_left
  · intro w'
    go_simp
    with_reducible rfl
  rotate_left
  · simp only [Act.put, List.setIfInBounds_toArray, List.set_cons_zero, List.set_cons_succ, i64_w, i32_w]
    rfl
  refine pure_ (i := 13) (N := some 18) (v := ?_) (a' := ?_) #[true, true, true, true, true, true, true, true, true, true, true, true, true, true, false, false, false, false, false, false, false, false] rfl rfl (any_of HT_.out (by kernel_rfl)) (fun _ _ _ h => h) (Or.inl ⟨by rfl, ?_⟩) ?_ ?_
  rotate_left
  · intro w'
    go_simp
    with_reducible rfl
  rotate_left
  · simp only [Act.put, List.setIfInBounds_toArray, List.set_cons_zero, List.set_cons_succ, i64_w, i32_w]
    rfl
  refine take_ (i := 14) (N := some 19) (v := ?_) (a' := ?_) #[true, true, true, true, true, true, true, true, true, true, true, true, true, true, true, false, false, false, false, false, false, false] rfl rfl (take_ofW HT_.out HW_.out (by kernel_rfl)) (fun _ _ _ h => h) (Or.inl ⟨by rfl, ?_⟩) hHeld ?_ ?_
  rotate_left
  · rintro w' s0
    have m0 := keep_cell s0 k0
    have m1 := keep_cell s0 k1
    have z0 := keep_cell s0 y0
    have z1 := keep_cell s0 y1
    have z2 := keep_cell s0 y2
    have z3 := keep_cell s0 y3
    have z4 := keep_cell s0 y4
    have z5 := keep_cell s0 y5
    go_simp
    with_reducible rfl
  rotate_left
  · simp only [Act.put, List.setIfInBounds_toArray, List.set_cons_zero, List.set_cons_succ, i64_w, i32_w]
    rfl
  refine pure_ (i := 15) (N := some 20) (v := ?_) (a' := ?_) #[true, true, true, true, true, true, true, true, true, true, true, true, true, true, true, true, false, false, false, false, false, false] rfl rfl (any_of HT_.out (by kernel_rfl)) (fun _ _ _ h => h) (Or.inl ⟨by rfl, ?_⟩) ?_ ?_
  rotate_left
  · intro w'
    go_simp
    with_reducible rfl
  rotate_left
  · simp only [Act.put, List.setIfInBounds_toArray, List.set_cons_zero, List.set_cons_succ, i64_w, i32_w]
    rfl
  refine pure_ (i := 16) (N := some 21) (v := ?_) (a' := ?_) #[true, true, true, true, true, true, true, true, true, true, true, true, true, true, true, true, true, false, false, false, false, false] rfl rfl (any_of HT_.out (by kernel_rfl)) (fun _ _ _ h => h) (Or.inl ⟨by rfl, ?_⟩) ?_ ?_
  rotate_left
  · intro w'
    go_simp
    with_reducible rfl
  rotate_left
  · simp only [Act.put, List.setIfInBounds_toArray, List.set_cons_zero, List.set_cons_succ, i64_w, i32_w]
    rfl
  refine take_ (i := 17) (N := some 22) (v := ?_) (a' := ?_) #[true, true, true, true, true, true, true, true, true, true, true, true, true, true, true, true, true, true, false, false, false, false] rfl rfl (take_ofW HT_.out HW_.out (by kernel_rfl)) (fun _ _ _ h => h) (Or.inl ⟨by rfl, ?_⟩) hHeld ?_ ?_
  rotate_left
  · rintro w' s0
    have m0 := keep_cell s0 k0
    have m1 := keep_cell s0 k1
    have z0 := keep_cell s0 y0
    have z1 := keep_cell s0 y1
    have z2 := keep_cell s0 y2
    have z3 := keep_cell s0 y3
    have z4 := keep_cell s0 y4
    have z5 := keep_cell s0 y5
    go_simp
    with_reducible rfl
  rotate_left
  · simp only [Act.put, List.setIfInBounds_toArray, List.set_cons_zero, List.set_cons_succ, i64_w, i32_w]
    rfl
  refine pure_ (i := 18) (N := some 23) (v := ?_) (a' := ?_) #[true, true, true, true, true, true, true, true, true, true, true, true, true, true, true, true, true, true, true, false, false, false] rfl rfl (any_of HT_.out (by kernel_rfl)) (fun _ _ _ h => h) (Or.inl ⟨by rfl, ?_⟩) ?_ ?_
  rotate_left
  · intro w'
    go_simp
    with_reducible rfl
  rotate_left
  · simp only [Act.put, List.setIfInBounds_toArray, List.set_cons_zero, List.set_cons_succ, i64_w, i32_w]
    rfl
  refine pure_ (i := 19) (N := some 24) (v := ?_) (a' := ?_) #[true, true, true, true, true, true, true, true, true, true, true, true, true, true, true, true, true, true, true, true, false, false] rfl rfl (any_of HT_.out (by kernel_rfl)) (fun _ _ _ h => h) (Or.inl ⟨by rfl, ?_⟩) ?_ ?_
  rotate_left
  · intro w'
    go_simp
    with_reducible rfl
  rotate_left
  · simp only [Act.put, List.setIfInBounds_toArray, List.set_cons_zero, List.set_cons_succ, i64_w, i32_w]
    rfl
  refine pure_ (i := 20) (N := some 25) (v := ?_) (a' := ?_) #[true, true, true, true, true, true, true, true, true, true, true, true, true, true, true, true, true, true, true, true, true, false] rfl rfl (any_of HT_.out (by kernel_rfl)) (fun _ _ _ h => h) (Or.inl ⟨by rfl, ?_⟩) ?_ ?_
  rotate_left
  · intro w'
    go_simp
    with_reducible rfl
  rotate_left
  · simp only [Act.put, List.setIfInBounds_toArray, List.set_cons_zero, List.set_cons_succ, i64_w, i32_w]
    rfl
  refine pure_ (i := 21) (N := some 4) (v := ?_) (a' := ?_) #[true, true, true, true, true, true, true, true, true, true, true, true, true, true, true, true, true, true, true, true, true, true] rfl rfl (any_of HT_.out (by kernel_rfl)) (fun _ _ _ h => h) (Or.inl ⟨by rfl, ?_⟩) ?_ ?_
  rotate_left
  · intro w'
    go_simp
    with_reducible rfl
  rotate_left
  · simp only [Act.put, List.setIfInBounds_toArray, List.set_cons_zero, List.set_cons_succ, i64_w, i32_w]
    rfl
  have hY := hHeld
  refine done_ (done_of HT_.out (by kernel_rfl)) ?_
  go_wp2
  go_ret
  exact ⟨rfl, keep_below hB0 hX⟩
end Go.Proofs.Ytknlbfandkmeiaa.M
