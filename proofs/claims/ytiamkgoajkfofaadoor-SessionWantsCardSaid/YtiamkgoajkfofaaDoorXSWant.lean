/- What the row of this claim reaches. No condition. -/
import Derived.Test.YtiamkgoajkfofaaDoorXSTab
import Derived.Test.YtiamkgoajkfofaaDoorXWMore
import Derived.Test.YtiamkgoajkfofaaDoorXReg
set_option linter.unusedVariables false
set_option linter.unusedSimpArgs false
namespace Go.Proofs.YtiamkgoajkfofaaDoor
open Go.RowKit Go.Proofs.YtiamkgoajkfofaaDoorW.PrintWords Go.Proofs.YtiamkgoajkfofaaDoorW.PrintLast Go.Proofs.YtiamkgoajkfofaaDoorW.PrintMore
def wantF (kind row part : Int) (need : List Int) : Int × Int × Int :=
  if tabF kind part = 2 then (if kind = 4 then (2, need.getD 0 0, 1) else (2, row, 2)) else (tabF kind part, 0, 0)
def wnt.T1 : Bool × List (List Nat × List Nat) := (true, [([], []), ([0], [0]), ([1], [1]), ([], []), ([3], [3]), ([2], [2]), ([5, 4], [4, 5]), ([6], [6]), ([7], [7]), ([], []), ([9, 8, 0, 1, 2, 3, 4, 5, 6, 7, 8, 9], [8, 9])])
def wnt.B1 : List Nat := [0, 1, 3, 0, 8, 7, 63, 127, 255, 0, 1023]
theorem wnt.tab1 : rtab .any (opsOf Tryd.f36 1) = wnt.T1 := by kernel_rfl
theorem wnt.bits1 : waitsOk wnt.T1.2 wnt.B1 = true := by kernel_rfl
section
variable (s0 s1 : Int) (s2 : Bool) (s3 kind : Int) (s5 : Bool) (row s7 s8 s9 s10 s11 part s13 s14 s15 s16 : Int) (A17 : Option Addr) (n17 c17 : Nat) (A18 : Option Addr) (n18 c18 : Nat) (A19 : Option Addr) (c19 : Nat) (need : List Int)
set_option maxHeartbeats 4000000 in
set_option maxRecDepth 100000 in
theorem want_any (w : World) (hT : TabIs w) (hr : Kd.C (Kd.int .u32) w A19 need.length need) (k0 : 0 ≤ kind) (k1 : kind < 7) (p0 : 0 ≤ part) (p1 : part < 4) (hq : tabF kind part = 2 → kind = 4 → 0 < need.length) :
    Calls Tryd.prog 36 #[.agg #[.int .i64 s0, .int .u64 s1, .bool s2, .int .u64 s3, .int .i64 kind, .bool s5, .int .u32 row, .int .i64 s7, .int .i64 s8, .int .i64 s9, .int .i64 s10, .int .i64 s11, .int .i64 part, .int .i64 s13, .int .i64 s14, .int .i64 s15, .int .i64 s16, .slice A17 n17 c17, .slice A18 n18 c18, .slice A19 need.length c19]] w fun e w' => e = .returned (.agg #[.int .i64 (wantF kind row part need).1, .int .u32 (wantF kind row part need).2.1, .int .i64 (wantF kind row part need).2.2]) ∧ Below w.heap.size w w' := by
  obtain ⟨i, rfl⟩ : ∃ i : Nat, kind = (i : Int) := ⟨kind.toNat, by omega⟩
  obtain ⟨j, rfl⟩ : ∃ j : Nat, part = (j : Int) := ⟨part.toNat, by omega⟩
  have q0 := hT.cell i j (by omega) (by omega)
  obtain ⟨⟨r1, r2, r3⟩, hres⟩ : ∃ q, wantF (i : Int) row (j : Int) need = q := ⟨_, rfl⟩
  rw [hres]
  have HRES := Lib.hid hres
  clear hres
  obtain ⟨W0, hW0⟩ : ∃ W, (w.alloc (.cells #[.int .i64 s0, .int .u64 s1, .bool s2, .int .u64 s3, .int .i64 (i : Int), .bool s5, .int .u32 row, .int .i64 s7, .int .i64 s8, .int .i64 s9, .int .i64 s10, .int .i64 s11, .int .i64 (j : Int), .int .i64 s13, .int .i64 s14, .int .i64 s15, .int .i64 s16, .slice A17 n17 c17, .slice A18 n18 c18, .slice A19 need.length c19] 33)).alloc (.cells #[.int .i64 0, .int .u32 0, .int .i64 0] 41) = W := ⟨_, rfl⟩
  have b0 : Blk W0 w.heap.size 33 #[.int .i64 s0, .int .u64 s1, .bool s2, .int .u64 s3, .int .i64 (i : Int), .bool s5, .int .u32 row, .int .i64 s7, .int .i64 s8, .int .i64 s9, .int .i64 s10, .int .i64 s11, .int .i64 (j : Int), .int .i64 s13, .int .i64 s14, .int .i64 s15, .int .i64 s16, .slice A17 n17 c17, .slice A18 n18 c18, .slice A19 need.length c19] := by rw [← hW0]; exact Blk.alloc (Blk.newAt rfl) _
  have b1 : Blk W0 (w.heap.size + 1) 41 #[.int .i64 0, .int .u32 0, .int .i64 0] := by rw [← hW0]; exact Blk.newAt (by simp)
  have hB : Below w.heap.size w W0 := by rw [← hW0]; (repeat (first | exact Below.refl _ _ | refine Below.drew ?_ | refine below_drewN' ?_ | refine Below.alloc ?_ (by simp; try omega) _ | refine Below.setCell ?_ (by simp; try omega) _))
  have HW := Lib.hid hW0
  have HR := Lib.hid hr
  have HQ := Lib.hid hq
  have HT := Lib.hid hT
  clear hW0 hr hq hT
  have e0 : (0 ≤ (i : Int)) = True := eq_true k0
  have e1 : ((i : Int) < 7) = True := eq_true k1
  have e2 : (0 ≤ (j : Int)) = True := eq_true p0
  have e3 : ((j : Int) < 4) = True := eq_true p1
  go_enter Tryd.func36, Tryd.ntmps36
  go_upto_region 1 with fail
  rw [HW.out]
  clear HW
  have c4 := keep_cell hB q0
  have c1 := b0.cell 4
  have c2 := b0.cell 12
  simp at c1 c2
  have u33 := Tryd.underlying33
  have u27 := Tryd.underlying27
  have u41 := Tryd.underlying41
  have u82 := Tryd.underlying82
  have u81 := Tryd.underlying81
  go_cut [3] (fun s3 wx => ∃ W : World, W = wx ∧ ∃ gz : Nat, s3 = .pointer (some ⟨gz, 0, none⟩) ∧ Blk wx gz 41 #[.int .i64 (tabF i j), .int .u32 0, .int .i64 0] ∧ W0.heap.size ≤ gz ∧ Below W0.heap.size W0 wx)
  case first =>
    refine start_ (n := 11) (S := (fun w' => Below W0.heap.size W0 w')) (ds := [10]) #[false, false, false, false, false, false, false, false, false, false, false] (by kernel_rfl) rfl rfl (Below.drew (Below.refl _ _)) (fun hHeld => ?_)
    refine with_tabW wnt.tab1 wnt.bits1 (fun HT_ HW_ => ?_)
    refine pure_ (i := 0) (N := some 4) (v := ?_) (a' := ?_) #[true, false, false, false, false, false, false, false, false, false, false] rfl rfl (any_of HT_.out (by kernel_rfl)) (fun _ _ _ h => h) (Or.inl ⟨by rfl, ?_⟩) ?_ ?_
    rotate_left
    · intro w'
      go_simp
      with_reducible rfl
    rotate_left
    · simp only [Act.put, List.setIfInBounds_toArray, List.set_cons_zero, List.set_cons_succ, i64_w, i32_w]
      rfl
    refine pure_ (i := 1) (N := some 5) (v := ?_) (a' := ?_) #[true, true, false, false, false, false, false, false, false, false, false] rfl rfl (any_of HT_.out (by kernel_rfl)) (fun _ _ _ h => h) (Or.inl ⟨by rfl, ?_⟩) ?_ ?_
    rotate_left
    · intro w'
      go_simp
      with_reducible rfl
    rotate_left
    · simp only [Act.put, List.setIfInBounds_toArray, List.set_cons_zero, List.set_cons_succ, i64_w, i32_w]
      rfl
    refine take_ (i := 2) (N := some 6) (v := ?_) (a' := ?_) #[true, true, true, false, false, false, false, false, false, false, false] rfl rfl (take_ofW HT_.out HW_.out (by kernel_rfl)) (fun _ _ _ h => h) (Or.inl ⟨by rfl, ?_⟩) hHeld ?_ ?_
    rotate_left
    · rintro w' s0
      have d1 := keep_cell s0 c1
      have d2 := keep_cell s0 c2
      have d4 := keep_cell s0 c4
      go_simp
      with_reducible rfl
    rotate_left
    · simp only [Act.put, List.setIfInBounds_toArray, List.set_cons_zero, List.set_cons_succ, i64_w, i32_w]
      rfl
    refine pure_ (i := 3) (N := some 7) (v := ?_) (a' := ?_) #[true, true, true, true, false, false, false, false, false, false, false] rfl rfl (any_of HT_.out (by kernel_rfl)) (fun _ _ _ h => h) (Or.inl ⟨by rfl, ?_⟩) ?_ ?_
    rotate_left
    · intro w'
      go_simp
      with_reducible rfl
    rotate_left
    · simp only [Act.put, List.setIfInBounds_toArray, List.set_cons_zero, List.set_cons_succ, i64_w, i32_w]
      rfl
    refine take_ (i := 4) (N := some 8) (v := ?_) (a' := ?_) #[true, true, true, true, true, false, false, false, false, false, false] rfl rfl (take_ofW HT_.out HW_.out (by kernel_rfl)) (fun _ _ _ h => h) (Or.inl ⟨by rfl, ?_⟩) hHeld ?_ ?_
    rotate_left
    · rintro w' s0
      have d1 := keep_cell s0 c1
      have d2 := keep_cell s0 c2
      have d4 := keep_cell s0 c4
      go_simp
      with_reducible rfl
    rotate_left
    · simp only [Act.put, List.setIfInBounds_toArray, List.set_cons_zero, List.set_cons_succ, i64_w, i32_w]
      rfl
    refine pure_ (i := 5) (N := some 9) (v := ?_) (a' := ?_) #[true, true, true, true, true, true, false, false, false, false, false] rfl rfl (any_of HT_.out (by kernel_rfl)) (fun _ _ _ h => h) (Or.inl ⟨by rfl, ?_⟩) ?_ ?_
    rotate_left
    · intro w'
      go_simp
      with_reducible rfl
    rotate_left
    · simp only [Act.put, List.setIfInBounds_toArray, List.set_cons_zero, List.set_cons_succ, i64_w, i32_w]
      rfl
    refine pure_ (i := 6) (N := some 10) (v := ?_) (a' := ?_) #[true, true, true, true, true, true, true, false, false, false, false] rfl rfl (any_of HT_.out (by kernel_rfl)) (fun _ _ _ h => h) (Or.inl ⟨by rfl, ?_⟩) ?_ ?_
    rotate_left
    · intro w'
      go_simp
      with_reducible rfl
    rotate_left
    · simp only [Act.put, List.setIfInBounds_toArray, List.set_cons_zero, List.set_cons_succ, i64_w, i32_w]
      rfl
    refine take_ (i := 7) (N := some 11) (v := ?_) (a' := ?_) #[true, true, true, true, true, true, true, true, false, false, false] rfl rfl (take_ofW HT_.out HW_.out (by kernel_rfl)) (fun _ _ _ h => h) (Or.inl ⟨by rfl, ?_⟩) hHeld ?_ ?_
    rotate_left
    · rintro w' s0
      have d1 := keep_cell s0 c1
      have d2 := keep_cell s0 c2
      have d4 := keep_cell s0 c4
      go_simp
      with_reducible rfl
    rotate_left
    · simp only [Act.put, List.setIfInBounds_toArray, List.set_cons_zero, List.set_cons_succ, i64_w, i32_w]
      rfl
    refine pure_ (i := 8) (N := some 12) (v := ?_) (a' := ?_) #[true, true, true, true, true, true, true, true, true, false, false] rfl rfl (any_of HT_.out (by kernel_rfl)) (fun _ _ _ h => h) (Or.inl ⟨by rfl, ?_⟩) ?_ ?_
    rotate_left
    · intro w'
      go_simp
      with_reducible rfl
    rotate_left
    · simp only [Act.put, List.setIfInBounds_toArray, List.set_cons_zero, List.set_cons_succ, i64_w, i32_w]
      rfl
    have hB9 := hHeld
    refine one_ (i := 9) (N := some 3) #[true, true, true, true, true, true, true, true, true, true, false] rfl rfl (one_of HT_.out (by kernel_rfl)) (by decide) (fun K hK => ?_)
    refine box_step ?hg (N := 3) ?hd (cs := #[.int .i64 0, .int .u32 0, .int .i64 0]) (t := 41) ?hr ?_; (case hd => rfl); (case hg => rfl); (case hr => first | (go_simp; done) | (go_simp; rfl))
    intro gz hg_ w1_ b_z0 hb_
    have l_z : W0.heap.size ≤ gz := by rw [hg_]; exact hB9.size
    have b_z : Blk w1_ gz 41 #[.int .i64 0, .int .u32 0, .int .i64 0] := b_z0
    clear b_z0
    replace hB9 := keep_below hB9 hb_
    clear hb_ hg_
    refine hK.out _ _ hB9 (fun hHeld => ?_)
    clear hK K
    refine norm_ (a' := ?_) ?_ ?_
    rotate_left
    · first | (show Act.put _ (some 3) _ = _; simp only [Act.put, List.setIfInBounds_toArray, List.set_cons_zero, List.set_cons_succ, i64_w, i32_w]; rfl) | with_reducible rfl
    clear hHeld c1 c2 c4
    have z0 := b_z.cell 0
    have z1 := b_z.cell 1
    have z2 := b_z.cell 2
    have y0 := b_z.frozen 0
    have y1 := b_z.frozen 1
    have y2 := b_z.frozen 2
    simp at z0 z1 z2
    refine last_ (i := 10) (N := none) #[true, true, true, true, true, true, true, true, true, true, true] rfl rfl (one_of HT_.out (by kernel_rfl)) (by decide) (fun K hK => ?_)
    refine skip_ (w1 := ?_) (by rfl) rfl ?_ ?_
    rotate_left
    · go_simp
      with_reducible rfl
    refine hK.out _ _ ?_
    clear hK K
    refine done_ (done_of HT_.out (by kernel_rfl)) ?_
    clear z0 z1 z2 y0 y1 y2
    go_wp2_with fail
    go_meet
    go_split_ands
    refine ⟨_, rfl, gz, rfl, ?_, l_z, ((hB9.setCell (p := ⟨gz, 0, none⟩) l_z _).setCell (p := ⟨gz, 1, none⟩) l_z _).setCell (p := ⟨gz, 2, none⟩) l_z _⟩
    simpa using ((b_z.set_ 0 (.int .i64 (tabF i j))).set_ 1 (.int .u32 0)).set_ 2 (.int .i64 0)
  case rest =>
    obtain ⟨wz, rfl, gz, rfl, b_z, l_z, hBz⟩ := hcut
    have b0z := b0.keep hBz
    have b1z := b1.keep hBz
    have hBw := keep_below hB hBz
    have lw : w.heap.size ≤ gz := Nat.le_trans hB.size l_z
    have ne1 : w.heap.size + 1 ≠ gz := by have := b1.lt; omega
    have ne0 : w.heap.size ≠ gz := by have := b0.lt; omega
    clear c1 c2 c4 b0 b1 hBz q0 HT
    have k4 := b0z.cell 4
    have k6 := b0z.cell 6
    have k19 := b0z.cell 19
    simp at k4 k6 k19
    have z0 := b_z.cell 0
    have z1 := b_z.cell 1
    have z2 := b_z.cell 2
    have y0 := b_z.frozen 0
    have y1 := b_z.frozen 1
    have y2 := b_z.frozen 2
    simp at z0 z1 z2
    have v0 := b1z.cell 0
    have v1 := b1z.cell 1
    have v2 := b1z.cell 2
    have x0 := b1z.frozen 0
    have x1 := b1z.frozen 1
    have x2 := b1z.frozen 2
    simp at v0 v1 v2
    have hres := HRES.out
    unfold wantF at hres
    clear HRES
    by_cases ht : tabF i j = 2
    · rw [if_pos ht] at hres
      have t1 : (tabF i j == 2) = true := beq_iff_eq.mpr ht
      clear z0 z1 z2 v0 v1 v2 x0 x1 x2
      have z0 := b_z.cell 0
      have z1 := b_z.cell 1
      have z2 := b_z.cell 2
      simp at z0 z1 z2
      have HT2 := Lib.hid ht
      by_cases h4 : (i : Int) = 4
      · rw [if_pos h4] at hres
        have t2 : ((i : Int) == 4) = true := beq_iff_eq.mpr h4
        have hl := HQ.out ht h4
        injection hres with g1 g2
        injection g2 with g2 g3
        have HG := Lib.hid (And.intro g1 (And.intro g2 g3))
        clear ht h4 HQ g1 g2 g3
        go_upto_region 4 with fail
        have bzw := (b_z.set_ 1 (.int .u32 row)).set_ 2 (.int .i64 2); have b0w := (b0z.far (p := ⟨gz, 1, none⟩) ne0 (.int .u32 row)).far (p := ⟨gz, 2, none⟩) ne0 (.int .i64 2); have b1w := (b1z.far (p := ⟨gz, 1, none⟩) ne1 (.int .u32 row)).far (p := ⟨gz, 2, none⟩) ne1 (.int .i64 2); have hBv := (hBw.setCell (p := ⟨gz, 1, none⟩) lw (.int .u32 row)).setCell (p := ⟨gz, 2, none⟩) lw (.int .i64 2); simp at bzw; (try clear k6); (try clear k19); clear k4 z1 z2 y1 y2; (try clear z0 y0); clear b_z b0z b1z hBw; generalize (wz.setCell ⟨gz, 1, none⟩ (.int .u32 row)).setCell ⟨gz, 2, none⟩ (.int .i64 2) = w3 at bzw b0w b1w hBv ⊢
        have k4 := b0w.cell 4
        have k19 := b0w.cell 19
        simp at k4 k19
        have z1 := bzw.cell 1
        have z2 := bzw.cell 2
        have y1 := bzw.frozen 1
        have y2 := bzw.frozen 2
        simp at z1 z2
        obtain ⟨ad, hA, f0⟩ := Kd.at_int (Kd.C_below HR.out hBv) 0 (Int.le_refl _) (by omega)
        subst hA
        have f1 : (0 < (need.length : Int)) = True := eq_true (by omega)
        have ea : ad.add 0 = ad := by unfold Addr.add; split <;> simp_all
        have f2 : w3.cell? (ad.add 0) = some (.int .u32 (rd need 0)) := f0
        have f3 : w3.cell? ad = some (.int .u32 (rd need 0)) := by rw [← ea]; exact f2
        clear f0 ea
        go_upto_region 6 with fail
        clear f2 f3
        have bz3 := bzw
        have b03 := b0w
        have b13 := b1w
        have hB3 := hBv
        clear bzw b0w b1w hBv
        have bzw := (bz3.set_ 1 (.int .u32 (rd need 0))).set_ 2 (.int .i64 1); have b0w := (b03.far (p := ⟨gz, 1, none⟩) ne0 (.int .u32 (rd need 0))).far (p := ⟨gz, 2, none⟩) ne0 (.int .i64 1); have b1w := (b13.far (p := ⟨gz, 1, none⟩) ne1 (.int .u32 (rd need 0))).far (p := ⟨gz, 2, none⟩) ne1 (.int .i64 1); have hBv := (hB3.setCell (p := ⟨gz, 1, none⟩) lw (.int .u32 (rd need 0))).setCell (p := ⟨gz, 2, none⟩) lw (.int .i64 1); simp at bzw; (try clear k6); (try clear k19); clear k4 z1 z2 y1 y2; (try clear z0 y0); clear bz3 b03 b13 hB3; generalize (w3.setCell ⟨gz, 1, none⟩ (.int .u32 (rd need 0))).setCell ⟨gz, 2, none⟩ (.int .i64 1) = w4 at bzw b0w b1w hBv ⊢
        have q0 := bzw.cell 0; have q1 := bzw.cell 1; have q2 := bzw.cell 2; simp at q0 q1 q2; have v0 := b1w.cell 0; have v1 := b1w.cell 1; have v2 := b1w.cell 2; have x0 := b1w.frozen 0; have x1 := b1w.frozen 1; have x2 := b1w.frozen 2; simp at v0 v1 v2
        go_wp2
        refine bodyPost_ret (v := .agg #[.int .i64 (tabF i j), .int .u32 (rd need 0), .int .i64 1]) (by simp [results, Tryd.results36, go_sem, *]) rfl ⟨?_, ((hBv.setCell (p := ⟨w.heap.size + 1, 0, none⟩) (Nat.le_succ _) _).setCell (p := ⟨w.heap.size + 1, 1, none⟩) (Nat.le_succ _) _).setCell (p := ⟨w.heap.size + 1, 2, none⟩) (Nat.le_succ _) _⟩
        obtain ⟨g1, g2, g3⟩ := HG.out
        rw [← g1, ← g2, ← g3, HT2.out]
        simp [rd]
      · rw [if_neg h4] at hres
        have t2 : ((i : Int) == 4) = false := beq_eq_false_iff_ne.mpr h4
        injection hres with g1 g2
        injection g2 with g2 g3
        have HG := Lib.hid (And.intro g1 (And.intro g2 g3))
        clear ht h4 HQ g1 g2 g3
        go_upto_region 4 with fail
        have bzw := (b_z.set_ 1 (.int .u32 row)).set_ 2 (.int .i64 2); have b0w := (b0z.far (p := ⟨gz, 1, none⟩) ne0 (.int .u32 row)).far (p := ⟨gz, 2, none⟩) ne0 (.int .i64 2); have b1w := (b1z.far (p := ⟨gz, 1, none⟩) ne1 (.int .u32 row)).far (p := ⟨gz, 2, none⟩) ne1 (.int .i64 2); have hBv := (hBw.setCell (p := ⟨gz, 1, none⟩) lw (.int .u32 row)).setCell (p := ⟨gz, 2, none⟩) lw (.int .i64 2); simp at bzw; (try clear k6); (try clear k19); clear k4 z1 z2 y1 y2; (try clear z0 y0); clear b_z b0z b1z hBw; generalize (wz.setCell ⟨gz, 1, none⟩ (.int .u32 row)).setCell ⟨gz, 2, none⟩ (.int .i64 2) = w3 at bzw b0w b1w hBv ⊢
        have k4 := b0w.cell 4
        simp at k4
        have q0 := bzw.cell 0; have q1 := bzw.cell 1; have q2 := bzw.cell 2; simp at q0 q1 q2; have v0 := b1w.cell 0; have v1 := b1w.cell 1; have v2 := b1w.cell 2; have x0 := b1w.frozen 0; have x1 := b1w.frozen 1; have x2 := b1w.frozen 2; simp at v0 v1 v2
        go_wp2
        refine bodyPost_ret (v := .agg #[.int .i64 (tabF i j), .int .u32 row, .int .i64 2]) (by simp [results, Tryd.results36, go_sem, *]) rfl ⟨?_, ((hBv.setCell (p := ⟨w.heap.size + 1, 0, none⟩) (Nat.le_succ _) _).setCell (p := ⟨w.heap.size + 1, 1, none⟩) (Nat.le_succ _) _).setCell (p := ⟨w.heap.size + 1, 2, none⟩) (Nat.le_succ _) _⟩
        obtain ⟨g1, g2, g3⟩ := HG.out
        rw [← g1, ← g2, ← g3, HT2.out]
    · rw [if_neg ht] at hres
      have t1 : (tabF i j == 2) = false := beq_eq_false_iff_ne.mpr ht
      injection hres with g1 g2
      injection g2 with g2 g3
      have HG := Lib.hid (And.intro g1 (And.intro g2 g3))
      clear ht HQ g1 g2 g3
      go_wp2
      refine bodyPost_ret (v := .agg #[.int .i64 (tabF i j), .int .u32 0, .int .i64 0]) (by simp [results, Tryd.results36, go_sem, *]) rfl ⟨?_, ((hBw.setCell (p := ⟨w.heap.size + 1, 0, none⟩) (Nat.le_succ _) _).setCell (p := ⟨w.heap.size + 1, 1, none⟩) (Nat.le_succ _) _).setCell (p := ⟨w.heap.size + 1, 2, none⟩) (Nat.le_succ _) _⟩
      obtain ⟨g1, g2, g3⟩ := HG.out
      rw [← g1, ← g2, ← g3]
end
end Go.Proofs.YtiamkgoajkfofaaDoor
