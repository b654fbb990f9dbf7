/- What the row of this claim reaches. No condition. -/
import Derived.Test.YtiamkgoajkfofaaDoorXSClos
set_option linter.unusedVariables false
set_option linter.unusedSimpArgs false
namespace Go.Proofs.YtiamkgoajkfofaaDoor.S
open Go.RowKit Go.Proofs.YtiamkgoajkfofaaDoorW.PrintWords Go.Proofs.YtiamkgoajkfofaaDoorW.PrintLast Go.Proofs.YtiamkgoajkfofaaDoorW.PrintMore
def grantedS (s : S33) : S33 := if ¬ s.f4.f0 = 4 then { s with f5 := s.f5 + 1 } else if s.f7.length = 1 then { s with f5 := 3, f7 := [] } else { s with f7 := s.f7.drop 1 }
theorem set_grown (W : World) (g i : Nat) (u : Value) : W.grownBy (W.setCell ⟨g, i, none⟩ u) (some g) :=
  ⟨rfl, rfl, rfl, by simp, fun k hk hne => Below.heap_setCell W ⟨g, i, none⟩ u k (fun e => hne (by rw [e]))⟩
theorem grown_trans {A B C : World} {r : Option Nat} (h1 : A.grownBy B r) (h2 : B.grownBy C r) : A.grownBy C r :=
  ⟨h2.os.trans h1.os, h2.tape.trans h1.tape, h2.output.trans h1.output, Nat.le_trans h1.size h2.size, fun k hk hne => (h2.block k (Nat.lt_of_lt_of_le hk h1.size) hne).trans (h1.block k hk hne)⟩
def dropP (p : Pt) : Pt := { p with A19 := (if p.c19 = 1 then p.A19 else p.A19.map (·.add 1)), c19 := p.c19 - 1 }
theorem in_drop {W : World} {b : Nat} {s : S33} {p : Pt} (h : InO W b s p) (hn : 0 < s.f7.length) : In W { s with f7 := s.f7.drop 1 } (dropP p) := by
  obtain ⟨h1, h2, h3⟩ := h.In
  refine ⟨h1, h2, ?_, ?_⟩
  · have := Kd.C_drop (m := 1) h3.1 (by omega) h3.2
    rw [show (1 * (Kd.int .u32).sz) = 1 from rfl] at this
    exact this
  · show (s.f7.drop 1).length ≤ p.c19 - 1
    rw [List.length_drop]
    have := h3.2
    omega
theorem in_nil {W : World} {b : Nat} {s : S33} {p : Pt} (h : InO W b s p) : In W { s with f7 := [] } { p with A19 := none, c19 := 0 } := ⟨h.In.1, h.In.2.1, Kd.C_nil _ _, Nat.le_refl _⟩
set_option maxHeartbeats 4000000 in
set_option maxRecDepth 100000 in
theorem granted2 (s : S33) (p : Pt) (g base : Nat) (w : World) (b : Blk w g 33 (sv s p)) (hO : InO w base s p) (hg : g < base) (hn : s.f4.f0 = 4 → 0 < s.f7.length) (h5 : 0 ≤ s.f5 ∧ s.f5 < 4) :
    Calls Tryd.prog 50 #[.pointer (some ⟨g, 0, none⟩)] w fun e w' => e = .returned (.tuple #[]) ∧ w.grownBy w' (some g) ∧ ∃ p'', Blk w' g 33 (sv (grantedS s) p'') ∧ InR w' base (grantedS s) p'' := by
  have k4 := sc4 b
  have HN := Lib.hid hn
  clear hn
  by_cases h4 : s.f4.f0 = 4
  · have e4 : (s.f4.f0 != 4) = false := by simp [h4]
    have hl := HN.out h4
    have hS : grantedS s = (if s.f7.length = 1 then { s with f5 := 3, f7 := [] } else { s with f7 := s.f7.drop 1 }) := by unfold grantedS; rw [if_neg (by simp [h4])]
    have HS := Lib.hid hS
    have HO := Lib.hid hO
    have hc := hO.In.2.2.2
    clear h4 hS hO
    have q1 : ((1 : Int) ≤ (s.f7.length : Int)) = True := eq_true (by omega)
    have q2 : ((s.f7.length : Int) ≤ (p.c19 : Int)) = True := eq_true (by omega)
    have k19 := sc19 b
    go_enter Tryd.func50, Tryd.ntmps50
    go_upto_region 2 with fail
    refine wp_region_list ?_
    refine pl_val (N := some 15) (v := ?_) (a' := ?_) rfl (by rfl) ?_ ?_ ?_
    rotate_left
    · go_simp
      with_reducible rfl
    rotate_left
    · simp only [Act.put, List.setIfInBounds_toArray, List.set_cons_zero, List.set_cons_succ, i64_w, i32_w]
      rfl
    refine pl_val (N := some 16) (v := ?_) (a' := ?_) rfl (by rfl) ?_ ?_ ?_
    rotate_left
    · go_simp
      with_reducible rfl
    rotate_left
    · simp only [Act.put, List.setIfInBounds_toArray, List.set_cons_zero, List.set_cons_succ, i64_w, i32_w]
      rfl
    refine pl_val (N := some 17) (v := ?_) (a' := ?_) rfl (by rfl) ?_ ?_ ?_
    rotate_left
    · go_simp
      with_reducible rfl
    rotate_left
    · simp only [Act.put, List.setIfInBounds_toArray, List.set_cons_zero, List.set_cons_succ, i64_w, i32_w]
      rfl
    refine pl_val (N := some 18) (v := ?_) (a' := ?_) rfl (by rfl) ?_ ?_ ?_
    rotate_left
    · go_simp
      with_reducible rfl
    rotate_left
    · simp only [Act.put, List.setIfInBounds_toArray, List.set_cons_zero, List.set_cons_succ, i64_w, i32_w]
      rfl
    refine pl_val (N := some 19) (v := ?_) (a' := ?_) rfl (by rfl) ?_ ?_ ?_
    rotate_left
    · go_simp
      with_reducible rfl
    rotate_left
    · simp only [Act.put, List.setIfInBounds_toArray, List.set_cons_zero, List.set_cons_succ, i64_w, i32_w]
      rfl
    refine pl_val (N := some 20) (v := .slice (dropP p).A19 (s.f7.length - 1) (dropP p).c19) (a' := ?_) rfl (by rfl) ?_ ?_ ?_
    · unfold dropP
      go_simp
    rotate_left
    · simp only [Act.put, List.setIfInBounds_toArray, List.set_cons_zero, List.set_cons_succ, i64_w, i32_w]
      rfl
    have z_ := b.frozen 19
    refine pl_val (N := some 21) (v := ?_) (a' := ?_) rfl (by rfl) ?_ ?_ ?_
    rotate_left
    · go_simp
      with_reducible rfl
    rotate_left
    · simp only [Act.put, List.setIfInBounds_toArray, List.set_cons_zero, List.set_cons_succ, i64_w, i32_w]
      rfl
    refine pl_val (N := some 22) (v := ?_) (a' := ?_) rfl (by rfl) ?_ ?_ ?_
    rotate_left
    · go_simp
      with_reducible rfl
    rotate_left
    · simp only [Act.put, List.setIfInBounds_toArray, List.set_cons_zero, List.set_cons_succ, i64_w, i32_w]
      rfl
    refine pl_skip (W' := ?_) rfl (by rfl) ?_ ?_
    rotate_left
    · go_simp
      with_reducible rfl
    refine wpList_nil ?_
    clear z_ q1 q2
    have hlen : (s.f7.drop 1).length = s.f7.length - 1 := List.length_drop
    have b1 : Blk (w.setCell ⟨g, 19, none⟩ (.slice (dropP p).A19 (s.f7.length - 1) (dropP p).c19)) g 33 (sv { s with f7 := s.f7.drop 1 } (dropP p)) := by
      rw [← hlen]
      exact b.set_ 19 (.slice (dropP p).A19 (s.f7.drop 1).length (dropP p).c19)
    have hO1 := HO.out.set (q := ⟨g, 19, none⟩) hg (.slice (dropP p).A19 (s.f7.length - 1) (dropP p).c19)
    have hG1 := set_grown w g 19 (.slice (dropP p).A19 (s.f7.length - 1) (dropP p).c19)
    generalize w.setCell ⟨g, 19, none⟩ (.slice (dropP p).A19 (s.f7.length - 1) (dropP p).c19) = w1 at b1 hO1 hG1 ⊢
    clear b k4 k19 HO
    have k19 := sc19 b1
    change w1.cell? ⟨g, 19, none⟩ = some (.slice (dropP p).A19 (s.f7.drop 1).length (dropP p).c19) at k19
    rw [hlen] at k19
    by_cases h1 : s.f7.length = 1
    · have e1 : (((s.f7.length - 1 : Nat) : Int) == 0) = true := by simp [h1]
      have H1 := Lib.hid h1
      clear h1
      have k12 := sc12 b1
      have z_ := b1.frozen 12
      go_upto_region 4 with fail
      refine wp_region_list ?_
      refine pl_val (N := some 29) (v := ?_) (a' := ?_) rfl (by rfl) ?_ ?_ ?_
      rotate_left
      · go_simp
        with_reducible rfl
      rotate_left
      · simp only [Act.put, List.setIfInBounds_toArray, List.set_cons_zero, List.set_cons_succ, i64_w, i32_w]
        rfl
      refine pl_val (N := some 30) (v := ?_) (a' := ?_) rfl (by rfl) ?_ ?_ ?_
      rotate_left
      · go_simp
        with_reducible rfl
      rotate_left
      · simp only [Act.put, List.setIfInBounds_toArray, List.set_cons_zero, List.set_cons_succ, i64_w, i32_w]
        rfl
      refine pl_val (N := some 31) (v := ?_) (a' := ?_) rfl (by rfl) ?_ ?_ ?_
      rotate_left
      · go_simp
        with_reducible rfl
      rotate_left
      · simp only [Act.put, List.setIfInBounds_toArray, List.set_cons_zero, List.set_cons_succ, i64_w, i32_w]
        rfl
      refine pl_val (N := some 32) (v := ?_) (a' := ?_) rfl (by rfl) ?_ ?_ ?_
      rotate_left
      · go_simp
        with_reducible rfl
      rotate_left
      · simp only [Act.put, List.setIfInBounds_toArray, List.set_cons_zero, List.set_cons_succ, i64_w, i32_w]
        rfl
      refine pl_skip (W' := ?_) rfl (by rfl) ?_ ?_
      rotate_left
      · go_simp
        with_reducible rfl
      clear z_ k12 k19
      have b2 : Blk (w1.setCell ⟨g, 12, none⟩ (.int .i64 3)) g 33 (sv { s with f5 := 3, f7 := s.f7.drop 1 } (dropP p)) := b1.set_ 12 (.int .i64 3)
      have hO2 := hO1.set (q := ⟨g, 12, none⟩) hg (.int .i64 3)
      have hG2 := grown_trans hG1 (set_grown w1 g 12 (.int .i64 3))
      generalize w1.setCell ⟨g, 12, none⟩ (.int .i64 3) = w2 at b2 hO2 hG2 ⊢
      clear b1 hO1 hG1
      have k19 := sc19 b2
      have z_ := b2.frozen 19
      refine pl_val (N := some 33) (v := ?_) (a' := ?_) rfl (by rfl) ?_ ?_ ?_
      rotate_left
      · go_simp
        with_reducible rfl
      rotate_left
      · simp only [Act.put, List.setIfInBounds_toArray, List.set_cons_zero, List.set_cons_succ, i64_w, i32_w]
        rfl
      refine pl_val (N := some 34) (v := ?_) (a' := ?_) rfl (by rfl) ?_ ?_ ?_
      rotate_left
      · go_simp
        with_reducible rfl
      rotate_left
      · simp only [Act.put, List.setIfInBounds_toArray, List.set_cons_zero, List.set_cons_succ, i64_w, i32_w]
        rfl
      refine pl_skip (W' := ?_) rfl (by rfl) ?_ ?_
      rotate_left
      · go_simp
        with_reducible rfl
      refine wpList_nil ?_
      clear z_ k19
      have b3 : Blk (w2.setCell ⟨g, 19, none⟩ (.slice none 0 0)) g 33 (sv { s with f5 := 3, f7 := [] } { p with A19 := none, c19 := 0 }) := b2.set_ 19 (.slice none 0 0)
      have hO3 := hO2.set (q := ⟨g, 19, none⟩) hg (.slice none 0 0)
      have hG3 := grown_trans hG2 (set_grown w2 g 19 (.slice none 0 0))
      refine bodyPost_end (results_none rfl _ _ _) rfl ?_
      rw [HS.out, if_pos H1.out]
      exact ⟨rfl, hG3, _, b3, fun W' hm => in_nil (hO3.move33 hm)⟩
    · have e1 : (((s.f7.length - 1 : Nat) : Int) == 0) = false := beq_eq_false_iff_ne.mpr (by omega)
      have H1 := Lib.hid h1
      clear h1
      go_wp2
      refine bodyPost_end (results_none rfl _ _ _) rfl ?_
      rw [HS.out, if_neg H1.out]
      exact ⟨rfl, hG1, _, b1, fun W' hm => in_drop (hO1.move33 hm) hl⟩
  · have e4 : (s.f4.f0 != 4) = true := bne_iff_ne.mpr h4
    have hS : grantedS s = { s with f5 := s.f5 + 1 } := by unfold grantedS; rw [if_pos h4]
    have HS := Lib.hid hS
    clear h4 hS
    have hw := wrap_sm (z := s.f5 + 1) (by omega) (by omega)
    have k12 := sc12 b
    have z_ := b.frozen 12
    go_enter Tryd.func50, Tryd.ntmps50
    go_upto_region 1 with fail
    refine wp_region_list ?_
    refine pl_val (N := some 8) (v := ?_) (a' := ?_) rfl (by rfl) ?_ ?_ ?_
    rotate_left
    · go_simp
      with_reducible rfl
    rotate_left
    · simp only [Act.put, List.setIfInBounds_toArray, List.set_cons_zero, List.set_cons_succ, i64_w, i32_w]
      rfl
    refine pl_val (N := some 9) (v := ?_) (a' := ?_) rfl (by rfl) ?_ ?_ ?_
    rotate_left
    · go_simp
      with_reducible rfl
    rotate_left
    · simp only [Act.put, List.setIfInBounds_toArray, List.set_cons_zero, List.set_cons_succ, i64_w, i32_w]
      rfl
    refine pl_val (N := some 10) (v := ?_) (a' := ?_) rfl (by rfl) ?_ ?_ ?_
    rotate_left
    · go_simp
      with_reducible rfl
    rotate_left
    · simp only [Act.put, List.setIfInBounds_toArray, List.set_cons_zero, List.set_cons_succ, i64_w, i32_w]
      rfl
    refine pl_val (N := some 11) (v := ?_) (a' := ?_) rfl (by rfl) ?_ ?_ ?_
    rotate_left
    · go_simp
      with_reducible rfl
    rotate_left
    · simp only [Act.put, List.setIfInBounds_toArray, List.set_cons_zero, List.set_cons_succ, i64_w, i32_w]
      rfl
    refine pl_val (N := some 12) (v := ?_) (a' := ?_) rfl (by rfl) ?_ ?_ ?_
    rotate_left
    · go_simp
      with_reducible rfl
    rotate_left
    · simp only [Act.put, List.setIfInBounds_toArray, List.set_cons_zero, List.set_cons_succ, i64_w, i32_w]
      rfl
    refine pl_val (N := some 13) (v := ?_) (a' := ?_) rfl (by rfl) ?_ ?_ ?_
    rotate_left
    · go_simp
      with_reducible rfl
    rotate_left
    · simp only [Act.put, List.setIfInBounds_toArray, List.set_cons_zero, List.set_cons_succ, i64_w, i32_w]
      rfl
    refine pl_val (N := some 14) (v := ?_) (a' := ?_) rfl (by rfl) ?_ ?_ ?_
    rotate_left
    · go_simp
      with_reducible rfl
    rotate_left
    · simp only [Act.put, List.setIfInBounds_toArray, List.set_cons_zero, List.set_cons_succ, i64_w, i32_w]
      rfl
    refine pl_skip (W' := ?_) rfl (by rfl) ?_ ?_
    rotate_left
    · go_simp
      with_reducible rfl
    refine wpList_nil ?_
    go_wp2
    refine bodyPost_ret (results_none rfl _ _ _) rfl ?_
    rw [HS.out]
    have bz : Blk (w.setCell ⟨g, 12, none⟩ (.int .i64 (s.f5 + 1))) g 33 (sv { s with f5 := s.f5 + 1 } p) := b.set_ 12 (.int .i64 (s.f5 + 1))
    exact ⟨rfl, set_grown _ _ _ _, p, bz, (hO.set (q := ⟨g, 12, none⟩) hg (.int .i64 (s.f5 + 1))).R⟩
end Go.Proofs.YtiamkgoajkfofaaDoor.S
