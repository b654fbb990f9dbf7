/- What the row of this claim reaches. No condition. -/
import Derived.Test.YtiamkgoajkfofaaDoorXSPure2
set_option linter.unusedVariables false
set_option linter.unusedSimpArgs false
namespace Go.Proofs.YtiamkgoajkfofaaDoor.S
open Go.RowKit Go.Proofs.YtiamkgoajkfofaaDoorW.PrintWords Go.Proofs.YtiamkgoajkfofaaDoorW.PrintLast Go.Proofs.YtiamkgoajkfofaaDoorW.PrintMore
attribute [local go_sem high] eqA27 eqA25
set_option maxHeartbeats 16000000 in
set_option maxRecDepth 100000 in
theorem rsame_any (s t : S33) (p q : Pt) (w : World) (hl : Lens s) (hi : In w s p) (hj : In w t q) :
    Calls Tryd.prog 15 #[.agg (sv s p), .agg (sv t q)] w fun e w' => e = .returned (.bool (sameB s t)) ∧ Below w.heap.size w w' := by
  obtain ⟨W, hW⟩ : ∃ W, (w.alloc (.cells (sv s p) 33)).alloc (.cells (sv t q) 33) = W := ⟨_, rfl⟩
  have b2 : Blk W w.heap.size 33 (sv s p) := by rw [← hW]; exact (Blk.new w 33 _).alloc _
  have b3 : Blk W (w.heap.size + 1) 33 (sv t q) := by rw [← hW]; exact Blk.newAt (by simp)
  have hB : Below w.heap.size w W := by rw [← hW]; exact keep_below_alloc _ (keep_below_alloc _ (Below.refl _ _))
  have HI := Lib.hid (hi.below hB)
  have HJ := Lib.hid (hj.below hB)
  have HW := Lib.hid hW
  clear hW hi hj
  have a0 := sc0 b2
  have e0 := sc0 b3
  have a1 := sc1 b2
  have e1 := sc1 b3
  have a2 := sc2 b2
  have e2 := sc2 b3
  have a3 := sc3 b2
  have e3 := sc3 b3
  have a4 := sc4 b2
  have e4 := sc4 b3
  have a5 := sc5 b2
  have e5 := sc5 b3
  have a6 := sc6 b2
  have e6 := sc6 b3
  have a7 := sc7 b2
  have e7 := sc7 b3
  have a8 := sc8 b2
  have e8 := sc8 b3
  have a9 := sc9 b2
  have e9 := sc9 b3
  have a10 := sc10 b2
  have e10 := sc10 b3
  have a11 := sc11 b2
  have e11 := sc11 b3
  have a12 := sc12 b2
  have e12 := sc12 b3
  have a13 := sc13 b2
  have e13 := sc13 b3
  have a14 := sc14 b2
  have e14 := sc14 b3
  have a15 := sc15 b2
  have e15 := sc15 b3
  have a16 := sc16 b2
  have e16 := sc16 b3
  have a17 := sc17 b2
  have e17 := sc17 b3
  have a18 := sc18 b2
  have e18 := sc18 b3
  have a19 := sc19 b2
  have e19 := sc19 b3
  clear b2 b3
  go_enter Tryd.func15, Tryd.ntmps15
  go_upto_region 1 with fail
  rw [HW.out]
  clear HW
  by_cases h0 : s.f0 = t.f0
  case neg =>
    have d0 : (s.f0 == t.f0) = false := beq_eq_false_iff_ne.mpr h0
    have n0 : (s.f0 != t.f0) = true := bne_iff_ne.mpr h0
    have H0 := Lib.hid h0
    clear h0
    go_wp2
    go_ret
    exact ⟨by simp [sameB, d0], hB⟩
  have d0 : (s.f0 == t.f0) = true := beq_iff_eq.mpr h0
  have n0 : (s.f0 != t.f0) = false := by simp [h0]
  have H0 := Lib.hid h0
  clear h0
  by_cases h1 : s.f1 = t.f1
  case neg =>
    have d1 : (s.f1 == t.f1) = false := beq_eq_false_iff_ne.mpr h1
    have n1 : (s.f1 != t.f1) = true := bne_iff_ne.mpr h1
    have H1 := Lib.hid h1
    clear h1
    go_wp2
    go_ret
    exact ⟨by simp [sameB, d0, d1], hB⟩
  have d1 : (s.f1 == t.f1) = true := beq_iff_eq.mpr h1
  have n1 : (s.f1 != t.f1) = false := by simp [h1]
  have H1 := Lib.hid h1
  clear h1
  by_cases h2 : s.f2 = t.f2
  case neg =>
    have d2 : (s.f2 == t.f2) = false := beq_eq_false_iff_ne.mpr h2
    have n2 : (s.f2 != t.f2) = true := bne_iff_ne.mpr h2
    have H2 := Lib.hid h2
    clear h2
    go_wp2
    go_ret
    exact ⟨by simp [sameB, d0, d1, d2], hB⟩
  have d2 : (s.f2 == t.f2) = true := beq_iff_eq.mpr h2
  have n2 : (s.f2 != t.f2) = false := by simp [h2]
  have H2 := Lib.hid h2
  clear h2
  by_cases h3 : s.f3 = t.f3
  case neg =>
    have d3 : (s.f3 == t.f3) = false := beq_eq_false_iff_ne.mpr h3
    have n3 : (s.f3 != t.f3) = true := bne_iff_ne.mpr h3
    have H3 := Lib.hid h3
    clear h3
    go_wp2
    go_ret
    exact ⟨by simp [sameB, d0, d1, d2, d3], hB⟩
  have d3 : (s.f3 == t.f3) = true := beq_iff_eq.mpr h3
  have n3 : (s.f3 != t.f3) = false := by simp [h3]
  have H3 := Lib.hid h3
  clear h3
  cases hop : opE s.f4 t.f4
  case false =>
    have dop : (s.f4.f0 == t.f4.f0 && (s.f4.f1 == t.f4.f1 && (s.f4.f2 == t.f4.f2 && ((s.f4.f3.f0 == t.f4.f3.f0 && (s.f4.f3.f1 == t.f4.f3.f1 && (s.f4.f3.f2 == t.f4.f3.f2 && (s.f4.f3.f3 == t.f4.f3.f3)))) && (s.f4.f4 == t.f4.f4))))) = false := hop
    go_wp2
    go_ret
    exact ⟨by simp [sameB, d0, d1, d2, d3, hop], hB⟩
  have dop : (s.f4.f0 == t.f4.f0 && (s.f4.f1 == t.f4.f1 && (s.f4.f2 == t.f4.f2 && ((s.f4.f3.f0 == t.f4.f3.f0 && (s.f4.f3.f1 == t.f4.f3.f1 && (s.f4.f3.f2 == t.f4.f3.f2 && (s.f4.f3.f3 == t.f4.f3.f3)))) && (s.f4.f4 == t.f4.f4))))) = true := hop
  by_cases h5 : s.f5 = t.f5
  case neg =>
    have d5 : (s.f5 == t.f5) = false := beq_eq_false_iff_ne.mpr h5
    have n5 : (s.f5 != t.f5) = true := bne_iff_ne.mpr h5
    have H5 := Lib.hid h5
    clear h5
    go_wp2
    go_ret
    exact ⟨by simp [sameB, d0, d1, d2, d3, hop, d5], hB⟩
  have d5 : (s.f5 == t.f5) = true := beq_iff_eq.mpr h5
  have n5 : (s.f5 != t.f5) = false := by simp [h5]
  have H5 := Lib.hid h5
  clear h5
  obtain ⟨k, hk⟩ := Ev.rounds (rcur_ev s.f6 t.f6 hl.1 hl.2.1)
  have HC := Lib.hid (gazetteerref13_Same.calls k s.f6.f0.f0 s.f6.f0.f1 s.f6.f0.f2 s.f6.f0.f3 p.A17 p.c17 s.f6.f1 p.A18 p.c18 s.f6.f2 t.f6.f0.f0 t.f6.f0.f1 t.f6.f0.f2 t.f6.f0.f3 q.A17 q.c17 t.f6.f1 q.A18 q.c18 t.f6.f2 (curEq s.f6 t.f6) W HI.out.1.1 HI.out.1.2 HI.out.2.1.1 HI.out.2.1.2 HJ.out.1.1 HJ.out.1.2 HJ.out.2.1.1 HJ.out.2.1.2 hk)
  clear hk
  cases hc : curEq s.f6 t.f6
  · rw [hc] at HC
    go_wp2_with (go_at_call 37; (with_reducible refine HC.out.mono ?_); rintro e w1 hh; have hb : Below _ _ w1 := (by first | exact hh.2 | exact hh.2.below); obtain ⟨rfl, _⟩ := hh; have hB1 := keep_below hB hb)
    go_ret
    exact ⟨by simp [sameB, d0, d1, d2, d3, hop, d5, hc], hB1⟩
  · rw [hc] at HC
    by_cases hn : s.f7.length = t.f7.length
    case neg =>
      have dn : ((s.f7.length : Int) != (t.f7.length : Int)) = true := bne_iff_ne.mpr (by omega)
      have hu := eqU_ne hn
      clear hn
      go_wp2_with (go_at_call 37; (with_reducible refine HC.out.mono ?_); rintro e w1 hh; have hb : Below _ _ w1 := (by first | exact hh.2 | exact hh.2.below); obtain ⟨rfl, _⟩ := hh; have hB1 := keep_below hB hb; have m2 := keep_cell hb a19; have m3 := keep_cell hb e19)
      go_ret
      exact ⟨by simp [sameB, d0, d1, d2, d3, hop, d5, hc, hu], hB1⟩
    have dn : ((s.f7.length : Int) != (t.f7.length : Int)) = false := by simp [hn]
    have hv : sameB s t = eqU s.f7 t.f7 := by simp [sameB, d0, d1, d2, d3, hop, d5, hc]
    have HV := Lib.hid hv
    have HN := Lib.hid hn
    clear hn hv
    go_upto_region 3 with (go_at_call 37; (with_reducible refine HC.out.mono ?_); rintro e w1 hh; have hb : Below _ _ w1 := (by first | exact hh.2 | exact hh.2.below); obtain ⟨rfl, _⟩ := hh; have hB1 := keep_below hB hb; have m2 := keep_cell hb a19; have m3 := keep_cell hb e19; have HI1 := Lib.hid (HI.out.below hb); have HJ1 := Lib.hid (HJ.out.below hb))
    clear HC HI HJ hb hB a0 e0 a1 e1 a2 e2 a3 e3 a4 e4 a5 e5 a6 e6 a7 e7 a8 e8 a9 e9 a10 e10 a11 e11 a12 e12 a13 e13 a14 e14 a15 e15 a16 e16 a17 e17 a18 e18 a19 e19 dop hop hc dn d0 n0 H0 d1 n1 H1 d2 n2 H2 d3 n3 H3 d5 n5 H5
    have hl2 := hl.2.2
    clear hl
    go_wp2
    go_loopw [5] (fun v5 wr => ∃ i : Nat, v5 = .int .i64 (i : Int) ∧ i ≤ s.f7.length ∧ Hid (eqU (s.f7.drop i) (t.f7.drop i) = eqU s.f7 t.f7) ∧ Below w1.heap.size w1 wr) (fun v5 _ => s.f7.length - (intOf v5).toNat)
    case atStart => exact ⟨0, rfl, by omega, Lib.hid rfl, Below.refl _ _⟩
    case round =>
      obtain ⟨i, rfl, hil, HE, hr⟩ := hrel
      have n2 := keep_cell hr m2
      have n3 := keep_cell hr m3
      by_cases hlt : i < s.f7.length
      · have hd : decide ((i : Int) < (s.f7.length : Int)) = true := decide_eq_true (by omega)
        have hw := wrap_sm (z := (i : Int) + 1) (by omega) (by omega)
        have hlt2 : i < t.f7.length := by rw [← HN.out]; exact hlt
        obtain ⟨ad, hA, x0⟩ := Kd.at_int (Kd.C_below HI1.out.2.2.1 hr) (i : Int) (by omega) (by omega)
        obtain ⟨ae, hE, y0⟩ := Kd.at_int (Kd.C_below HJ1.out.2.2.1 hr) (i : Int) (by omega) (by omega)
        rw [hA] at n2
        rw [hE] at n3
        have x1 : wr.cell? (ad.add i) = some (.int .u32 (rd s.f7 (i : Int))) := by simpa using x0
        have y1 : wr.cell? (ae.add i) = some (.int .u32 (rd t.f7 (i : Int))) := by simpa using y0
        have p0 : (0 ≤ (i : Int)) = True := eq_true (by omega)
        have p1 : ((i : Int) < (s.f7.length : Int)) = True := eq_true (by omega)
        have p2 : ((i : Int) < (t.f7.length : Int)) = True := eq_true (by omega)
        have hq := HE.out
        rw [dropU hlt, dropU hlt2, eqU] at hq
        clear x0 y0 hA hE HE
        by_cases hx : rd s.f7 (i : Int) = rd t.f7 (i : Int)
        · have dx : (rd s.f7 (i : Int) != rd t.f7 (i : Int)) = false := by simp [hx]
          rw [beq_iff_eq.mpr hx, Bool.true_and] at hq
          have HQ := Lib.hid hq
          clear hq hx
          go_upto_region 6 with fail
          go_quiet (fail)
          go_wp2
          go_roundw
          case rel => exact ⟨i + 1, by simp [hw], by omega, HQ, by first | exact hr | exact Below.drew hr | exact below_drewN' hr⟩
          case measure => simp [intOf, hw]; omega
        · have dx : (rd s.f7 (i : Int) != rd t.f7 (i : Int)) = true := bne_iff_ne.mpr hx
          rw [beq_eq_false_iff_ne.mpr hx, Bool.false_and] at hq
          have HQ := Lib.hid hq
          clear hq hx
          go_upto_region 6 with fail
          go_quiet (fail)
          go_wp2
          go_ret
          exact ⟨by rw [HV.out, ← HQ.out]; rfl, by first | exact keep_below hB1 hr | exact keep_below hB1 (Below.drew hr) | exact keep_below hB1 (below_drewN' hr)⟩
      · have hd : decide ((i : Int) < (s.f7.length : Int)) = false := decide_eq_false (by omega)
        have hz : eqU s.f7 t.f7 = true := by
          rw [← HE.out, List.drop_eq_nil_of_le (by omega), List.drop_eq_nil_of_le (by have := HN.out; omega)]
          rfl
        have HZ := Lib.hid hz
        clear hz HE
        go_wp2
        go_ret
        exact ⟨by rw [HV.out, HZ.out]; rfl, keep_below hB1 hr⟩
theorem rsame_c {s t : S33} {p q : Pt} {W : World} (hl : Lens s) (hi : In W s p) (hj : In W t q) : Hid (Calls Tryd.prog 15 #[.agg (sv s p), .agg (sv t q)] W fun e w' => e = .returned (.bool (sameB s t)) ∧ Below W.heap.size W w') := Lib.hid (rsame_any s t p q W hl hi hj)
end Go.Proofs.YtiamkgoajkfofaaDoor.S
