/- VisionGone: what is dead is not seen, with a snapshot of at least the horizon, nor by one that writes and has not made it. No condition. -/
import Derived.Test.YtfggjefncnhikaaVPure
import Derived.Test.YtfggjefncnhikaaAx12
import Derived.Test.YtfggjefncnhikaaVBase
namespace Go.Proofs.Ytfggjefncnhikaa.A
set_option linter.unusedVariables false
set_option linter.unusedSimpArgs false
open Go.RowKit Go.Proofs.YtfggjefncnhikaaW.PrintWords Go.Proofs.YtfggjefncnhikaaW.PrintLast

theorem dead_f {l : List S44} {a h r m x b c d e v : Int} (hn : l.length ≤ 500) (hw : ∀ y ∈ l, wf44 y) (hr : 0 ≤ r) (hm : 0 ≤ m) :
    vision_Dead.f a l h r m x b c d e v = some (if rightF a (prs l) then (if tupF r m x b c d e then (!(fateF a (prs l) m).2.1 && !(fateF a (prs l) m).2.2 || ((fateF a (prs l) x).2.1 && decide ((fateF a (prs l) x).1 ≤ h)), 0) else (false, 200)) else (false, 270)) := by
  unfold vision_Dead.f
  rw [sees_f hn hw hr hm]
  unfold seesF
  by_cases h1 : rightF a (prs l) = true
  · by_cases h2 : tupF r m x b c d e = true
    · have q1 : ∀ z, vision_fate.f a l z = some (fateF a (prs l) z) := fun z => by unfold vision_fate.f; rw [if_pos h1]
      simp only [if_pos h1, if_pos h2, Option.bind_some, if_true, q1]
      obtain ⟨f1, f2, f3⟩ := fateF a (prs l) m
      obtain ⟨g1, g2, g3⟩ := fateF a (prs l) x
      cases f2 <;> cases f3 <;> cases g2 <;> simp
    · simp only [if_pos h1, if_neg h2, Option.bind_some]
      rfl
  · simp only [if_neg h1, Option.bind_some]
    rfl
theorem gone_pure {l : List S44} {a h s r m x b c d e v : Int} (hn : l.length ≤ 500) (hw : ∀ y ∈ l, wf44 y) (hr : 0 ≤ r) (hm : 0 ≤ m) (hs : h ≤ s) (hd : vision_Dead.f a l h r m x b c d e v = some (true, 0)) :
    vision_Sees.f a l 0 true s r m x b c d e v = some (false, 0) ∧ vision_Sees.f a l (m + 1) false 0 r m x b c d e v = some (false, 0) ∧ m + 1 ≤ 4294967296 := by
  rw [dead_f hn hw hr hm] at hd
  rw [sees_f hn hw hr hm, sees_f hn hw hr hm]
  unfold seesF
  by_cases h1 : rightF a (prs l) = true
  · by_cases h2 : tupF r m x b c d e = true
    · simp only [if_pos h1, if_pos h2, Option.some.injEq, Prod.mk.injEq, and_true, Bool.or_eq_true, Bool.and_eq_true, Bool.not_eq_true', decide_eq_true_eq] at hd ⊢
      have h3 : m ≤ 4294967295 := by
        unfold tupF at h2
        simp only [Bool.and_eq_true, decide_eq_true_eq] at h2
        exact h2.1.1.2
      unfold countsF
      rcases hd with ⟨e1, _⟩ | ⟨e1, e2⟩
      · have e3 : (m == m + 1) = false := by simp; omega
        rw [e1, e3]
        simp; omega
      · have e3 : decide ((fateF a (prs l) x).1 ≤ s) = true := decide_eq_true (by omega)
        rw [e1, e3]
        simp; omega
    · simp [h1, h2] at hd
  · simp [h1] at hd
set_option maxHeartbeats 2000000 in
set_option maxRecDepth 100000 in
theorem gone_any (a p q r m x b c d e v : Int) (A : Option Addr) (n : Nat) (l : List S44) (w : World) (hr : Kd.C k44 w A l.length l) (hc : l.length ≤ n) (hw : ∀ y ∈ l, wf44 y) (hr0 : 0 ≤ r) (hm0 : 0 ≤ m) :
    Calls Try.prog 7 #[.agg #[.int .u64 a, .slice A l.length n], .agg #[.int .u64 p, .int .u64 q], .agg #[.int .u32 r, .int .u64 m, .int .u64 x, .int .i64 b, .int .i64 c, .int .i64 d, .int .i64 e, .int .i64 v]] w
      fun e w' => e = .returned (.bool true) ∧ Below w.heap.size w w' := by
  have hwk := fun W => Lib.hid (gazetteerlaw17_wakes.calls true W wakes_f)
  obtain ⟨W0, hW0⟩ : ∃ W, ((w.alloc (.cells #[.int .u64 a, .slice A l.length n] 25)).alloc (.cells #[.int .u64 p, .int .u64 q] 49)).alloc (.cells #[.int .u32 r, .int .u64 m, .int .u64 x, .int .i64 b, .int .i64 c, .int .i64 d, .int .i64 e, .int .i64 v] 32) = W := ⟨_, rfl⟩
  have hB0 : Below w.heap.size w W0 := by rw [← hW0]; (repeat (first | exact Below.refl _ _ | refine Below.drew ?_ | refine below_drewN' ?_ | refine Below.alloc ?_ (by simp; try omega) _ | refine Below.setCell ?_ (by simp; try omega) _))
  have q0 : Blk W0 w.heap.size 25 #[.int .u64 a, .slice A l.length n] := by rw [← hW0]; exact Blk.alloc (Blk.alloc (Blk.newAt rfl) _) _
  have q1 : Blk W0 (w.heap.size + 1) 49 #[.int .u64 p, .int .u64 q] := by rw [← hW0]; exact Blk.alloc (Blk.newAt (by simp)) _
  have q2 : Blk W0 (w.heap.size + 1 + 1) 32 #[.int .u32 r, .int .u64 m, .int .u64 x, .int .i64 b, .int .i64 c, .int .i64 d, .int .i64 e, .int .i64 v] := by rw [← hW0]; exact Blk.newAt (by simp)
  have HQ := Lib.hid (And.intro q0 (And.intro q1 q2))
  have HW := Lib.hid hW0
  clear q0 q1 q2 hW0
  by_cases hn : 500 < l.length
  · go_enter Try.func7, Try.ntmps7
    go_wp2_with (go_at_call 9; (with_reducible refine (hwk _).out.mono ?_); rintro e w1 ⟨rfl, hb1⟩; rw [HW.out] at hb1; have k1 : w1.cell? ⟨w.heap.size, 1, none⟩ = some (.slice A l.length n) := (HQ.out.1.keep hb1).cell 1)
    go_ret
    exact ⟨rfl, keep_below hB0 hb1⟩
  · go_enter Try.func7, Try.ntmps7
    go_wp2_with (go_at_call 9; (with_reducible refine (hwk _).out.mono ?_); rintro e w1 ⟨rfl, hb1⟩; rw [HW.out] at hb1; have k1 : w1.cell? ⟨w.heap.size, 1, none⟩ = some (.slice A l.length n) := (HQ.out.1.keep hb1).cell 1; have a0 : w1.cell? ⟨w.heap.size + 1, 0, none⟩ = some (.int .u64 p) := (HQ.out.2.1.keep hb1).cell 0; have a1 : w1.cell? ⟨w.heap.size + 1, 1, none⟩ = some (.int .u64 q) := (HQ.out.2.1.keep hb1).cell 1)
    go_quiet (fail)
    obtain ⟨h, hh⟩ : ∃ h, (if q < p then q else p) = h := ⟨_, rfl⟩
    obtain ⟨s, hs⟩ : ∃ h, (if p < q then q else p) = h := ⟨_, rfl⟩
    have hhs : h ≤ s := by rw [← hh, ← hs]; split <;> split <;> omega
    rw [hh, hs]
    have hkb : ∀ W, Below w.heap.size w W → Kd.C k44 W A l.length l := fun W hb => Kd.C_below hr hb
    have hB1 : Below w.heap.size w (w1.drewN nq) := below_drewN' (keep_below hB0 hb1)
    obtain ⟨⟨D, no⟩, hD⟩ : ∃ y, vision_Dead.f a l h r m x b c d e v = some y := ⟨_, dead_f (by omega) hw hr0 hm0⟩
    have hcd := Lib.hid (vision_Dead.calls a A n l h r m x b c d e v D no (w1.drewN nq) (hkb _ hB1) hc hD)
    have HS := fun W hb => Lib.hid (And.intro (fun r1 r2 hf => vision_Sees.calls a A n l 0 true s r m x b c d e v r1 r2 W (hkb W hb) hc hf) (fun r1 r2 hf => vision_Sees.calls a A n l (m + 1) false 0 r m x b c d e v r1 r2 W (hkb W hb) hc hf))
    have f0 : w1.cell? ⟨w.heap.size, 0, none⟩ = some (.int .u64 a) := (HQ.out.1.keep hb1).cell 0
    have t0 := (HQ.out.2.2.keep hb1).cell 0
    have t1 := (HQ.out.2.2.keep hb1).cell 1
    have t2 := (HQ.out.2.2.keep hb1).cell 2
    have t3 := (HQ.out.2.2.keep hb1).cell 3
    have t4 := (HQ.out.2.2.keep hb1).cell 4
    have t5 := (HQ.out.2.2.keep hb1).cell 5
    have t6 := (HQ.out.2.2.keep hb1).cell 6
    have t7 := (HQ.out.2.2.keep hb1).cell 7
    simp at t0 t1 t2 t3 t4 t5 t6 t7
    have HP := Lib.hid (And.intro hh (And.intro hs (And.intro hhs hD)))
    clear hh hs hhs hD hkb
    by_cases hdn : D = true ∧ no = 0
    · obtain ⟨rfl, rfl⟩ := hdn
      obtain ⟨g1, g2, g3⟩ := gone_pure (by omega) hw hr0 hm0 HP.out.2.2.1 HP.out.2.2.2
      have G := Lib.hid (And.intro g1 g2)
      have hwr : IntKind.u64.wrap (m + 1) = m + 1 := by simp only [IntKind.wrap_u64]; omega
      clear g1 g2
      go_wp2_with (first
        | (go_at_call 18; (with_reducible refine hcd.out.mono ?_); rintro e w2 ⟨rfl, hb2⟩; have hB2 := Below.step hB1 hb2 hB1.size; have u0 := keep_cell hb2 f0; have u1 := keep_cell hb2 k1; have v0 := keep_cell hb2 t0; have v1 := keep_cell hb2 t1; have v2 := keep_cell hb2 t2; have v3 := keep_cell hb2 t3; have v4 := keep_cell hb2 t4; have v5 := keep_cell hb2 t5; have v6 := keep_cell hb2 t6; have v7 := keep_cell hb2 t7; have hs1 := Lib.hid ((HS _ hB2).out.1 false 0 G.out.1); clear hcd)
        | (go_at_call 12; (with_reducible refine hs1.out.mono ?_); clear hs1; rintro e w3 ⟨rfl, hb3⟩; have hB3 := Below.step hB2 hb3 hB2.size; have u2 := keep_cell hb3 u0; have u3 := keep_cell hb3 u1; have x0 := keep_cell hb3 v0; have x1 := keep_cell hb3 v1; have x2 := keep_cell hb3 v2; have x3 := keep_cell hb3 v3; have x4 := keep_cell hb3 v4; have x5 := keep_cell hb3 v5; have x6 := keep_cell hb3 v6; have x7 := keep_cell hb3 v7; have hs2 := Lib.hid ((HS _ hB3).out.2 false 0 G.out.2))
        | (go_at_call 12; (with_reducible refine hs2.out.mono ?_); rintro e w4 ⟨rfl, hb4⟩))
      go_ret
      exact ⟨rfl, Below.step hB3 hb4 hB3.size⟩
    · have hb : (no != 0) = true ∨ (no != 0) = false ∧ D = false := by
        by_cases h : no = 0
        · right
          refine ⟨by simp [h], ?_⟩
          cases D
          · rfl
          · exact absurd ⟨rfl, h⟩ hdn
        · left
          simpa using h
      rcases hb with h9 | ⟨h9, rfl⟩
      all_goals
        go_wp2_with (go_at_call 18; (with_reducible refine hcd.out.mono ?_); rintro e w2 ⟨rfl, hb2⟩; have hB2 := Below.step hB1 hb2 hB1.size)
        go_ret
        exact ⟨by first | rfl | (simp; done) | (simp [*]; done), hB2⟩
end Go.Proofs.Ytfggjefncnhikaa.A
