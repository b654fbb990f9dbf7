/- VisionSeen: the given statement, out of its plain statement and the walk of its code. No condition. -/
import Derived.SizedLaws
import Derived.Test.YtfggjefncnhikaaZVLaw
set_option linter.unusedVariables false
set_option linter.unusedSimpArgs false
namespace Go.Proofs.Ytfggjefncnhikaa.V
open Go.ChangeShapes Go.WideShapes Go.ChangeAt Go.RowKit Go.Proofs.YtfggjefncnhikaaW.PrintWords
theorem filter_false {l : List S61} {f : S61 → Bool} (h : ∀ x ∈ l, f x = false) : l.filter f = [] := by
  rw [List.filter_eq_nil_iff]
  intro x hx
  simp [h x hx]
theorem kcheck_f (a b c d : Int) : key_Check.f 1 a b c d = some (if boxF a b c d then 0 else 2) := by
  unfold key_Check.f
  rw [box_f, Option.bind_some, if_pos rfl]
  cases boxF a b c d <;> rfl
theorem mB_box {a b c d : Int} (h : boxF a b c d = false) (x : S61) : mB a b c d x = false := by
  rw [mB_eq]
  unfold meetsF
  rw [h]
  simp
set_option maxHeartbeats 1000000 in
theorem law_all (a0_0 : Int) (A0_1 : Option Addr) (c0_1 : Nat) (l0_1 : List S44) (A1 : Option Addr) (c1 : Nat) (l1 : List S61) (own : Int) (reads : Bool) (snap x0 x1 y0 y1 row : Int) (w : World)
    (hr0_1 : Kd.C k44 w A0_1 l0_1.length l0_1) (hc0_1 : l0_1.length ≤ c0_1) (hr1 : Kd.C k61 w A1 l1.length l1) (hc1 : l1.length ≤ c1) (ha : 0 ≤ a0_0) (hs : 0 ≤ snap) (hw0 : ∀ x ∈ l0_1, wf44 x) (hw1 : ∀ x ∈ l1, wf61 x) :
    Calls Try.prog 8 #[.agg #[.int .u64 a0_0, .slice A0_1 l0_1.length c0_1], .slice A1 l1.length c1, .agg #[.int .u64 own, .bool reads, .int .u64 snap, .int .i64 x0, .int .i64 x1, .int .i64 y0, .int .i64 y1, .int .u32 row]] w fun e w' => e = .returned (.bool true) ∧ Below w.heap.size w w' := by
  by_cases hf : 500 < l0_1.length ∨ 300 < l1.length
  · exact law_far a0_0 A0_1 c0_1 l0_1 A1 c1 l1 own reads snap x0 x1 y0 y1 row w hf
  have hn0 : l0_1.length ≤ 500 := by omega
  have hn1 : l1.length ≤ 300 := by omega
  obtain ⟨all, hall⟩ : ∃ all, l1.filter (rseesB own reads snap a0_0 l0_1) = all := ⟨_, rfl⟩
  obtain ⟨inw, hinw⟩ : ∃ inw, l1.filter (fun x => rseesB own reads snap a0_0 l0_1 x && mB x0 x1 y0 y1 x) = inw := ⟨_, rfl⟩
  have hla : all.length ≤ 300 := by rw [← hall]; exact Nat.le_trans (List.length_filter_le _ _) hn1
  have hli : inw.length ≤ 300 := by rw [← hinw]; exact Nat.le_trans (List.length_filter_le _ _) hn1
  obtain ⟨K1, E1⟩ := right_ev (a := a0_0) hn0 ha hw0
  obtain ⟨K2, E2⟩ := all_l0 hn1 l1.length 0 (by omega)
  obtain ⟨K3, E3⟩ := in_l0 (l := l0_1) (l2 := l1) (a := a0_0) (own := own) (snap := snap) (x0 := 0) (x1 := 0) (y0 := 0) (y1 := 0) (reads := reads) (w := false) hn0 hn1 l1.length 0 [] (by omega) (by simp)
  obtain ⟨K4, E4⟩ := in_l0 (l := l0_1) (l2 := l1) (a := a0_0) (own := own) (snap := snap) (x0 := x0) (x1 := x1) (y0 := y0) (y1 := y1) (reads := reads) (w := true) hn0 hn1 l1.length 0 [] (by omega) (by simp)
  obtain ⟨K5, E5⟩ := same_ev hla
  obtain ⟨K6, E6⟩ := same_ev hli
  have F1 := E1 (K1 + K2 + K3 + K4 + K5 + K6) (by omega)
  have F2 := E2 (K1 + K2 + K3 + K4 + K5 + K6) (by omega)
  have F3 := E3 (K1 + K2 + K3 + K4 + K5 + K6) (by omega)
  have F4 := E4 (K1 + K2 + K3 + K4 + K5 + K6) (by omega)
  have F5 := E5 (K1 + K2 + K3 + K4 + K5 + K6) (by omega)
  have F6 := E6 (K1 + K2 + K3 + K4 + K5 + K6) (by omega)
  simp only [List.drop_zero, List.nil_append, Bool.not_false, Bool.not_true, Bool.true_or, Bool.false_or, Bool.and_true] at F2 F3 F4
  rw [hall] at F3
  rw [hinw] at F4
  have HR := ready_f (a := a0_0) hn0 hw0 hn1 hw1
  have hseq : rightF a0_0 (prs l0_1) = true → l1.filter (seesB own reads snap a0_0 l0_1) = all := fun hR => by
    rw [← hall]
    exact List.filter_congr fun x hx => (rsees_eq hw0 hR hs (hw1 x hx)).symm
  have hseq2 : rightF a0_0 (prs l0_1) = true → (l1.filter (seesB own reads snap a0_0 l0_1)).filter (mB x0 x1 y0 y1) = inw := fun hR => by
    rw [hseq hR, ← hall, ← hinw, List.filter_filter]
    exact List.filter_congr fun x _ => Bool.and_comm _ _
  cases hR : rightF a0_0 (prs l0_1)
  · rw [hR] at HR F1
    refine law_any a0_0 A0_1 c0_1 l0_1 A1 c1 l1 own reads snap x0 x1 y0 y1 row w hr0_1 hc0_1 hr1 hc1 hn0 hn1 [] [] 270 270 270 zeroS false ?_ ?_ HR (by simp) _ false (boxF x0 x1 y0 y1) (l1.all tupS) all inw F1 (rbox_f _ _ _ _) F2 F3 F4 (by simp) (by simp) ⟨?_, ?_, ?_, ?_, ?_, ?_, ?_, ?_, hla⟩ ?_
    · unfold vision_Seen.f; rw [HR]; simp
    · unfold vision_In.f
      rw [check_f hn0 hw0, hR, kcheck_f, HR]
      simp
    all_goals first | (intro h; cases h; done) | exact fun _ => ⟨rfl, rfl, rfl, rfl, rfl, rfl, rfl⟩ | rfl
  · rw [hR] at HR F1
    cases hA : l1.all tupS
    · rw [hA] at HR F2
      refine law_any a0_0 A0_1 c0_1 l0_1 A1 c1 l1 own reads snap x0 x1 y0 y1 row w hr0_1 hc0_1 hr1 hc1 hn0 hn1 [] [] 200 (if boxF x0 x1 y0 y1 then 200 else 2) 200 zeroS false ?_ ?_ HR (by simp) _ true (boxF x0 x1 y0 y1) false all inw F1 (rbox_f _ _ _ _) F2 F3 F4 (by simp) (by simp) ⟨?_, ?_, ?_, ?_, ?_, ?_, ?_, ?_, hla⟩ ?_
      · unfold vision_Seen.f; rw [HR]; simp
      · unfold vision_In.f
        rw [check_f hn0 hw0, hR, kcheck_f, HR]
        cases boxF x0 x1 y0 y1 <;> simp
      all_goals first | (intro h; cases h; done) | (intro _ h; cases h; done) | (intro _ h; simp [h]; done) | exact fun _ _ => ⟨rfl, rfl, rfl, rfl, rfl⟩ | (intro _ _ h; simp [h]; done) | rfl
    · rw [hA] at HR F2
      have hz : ∃ z th, oneV 0 (all.find? (fun x => x.f1.f0 == row)) = .tuple #[stored z, .bool th, .int .i64 0] ∧ (∀ x, all.find? (fun x => x.f1.f0 == row) = some x → z = x ∧ th = true) ∧ (all.find? (fun x => x.f1.f0 == row) = none → z = zeroS ∧ th = false) := by
        cases hfd : all.find? (fun x => x.f1.f0 == row) with
        | none => exact ⟨zeroS, false, rfl, fun x h => (by cases h), fun _ => ⟨rfl, rfl⟩⟩
        | some x => exact ⟨x, true, rfl, fun y h => (by injection h with h; exact ⟨h, rfl⟩), fun h => (by cases h)⟩
      obtain ⟨z, th, hz0, hz1, hz2⟩ := hz
      refine law_any a0_0 A0_1 c0_1 l0_1 A1 c1 l1 own reads snap x0 x1 y0 y1 row w hr0_1 hc0_1 hr1 hc1 hn0 hn1 all (if boxF x0 x1 y0 y1 then inw else []) 0 (if boxF x0 x1 y0 y1 then 0 else 2) 0 z th ?_ ?_ HR (fun _ => hR) _ true (boxF x0 x1 y0 y1) true all inw F1 (rbox_f _ _ _ _) F2 F3 F4 (fun _ _ => F5) ?_ ⟨?_, ?_, ?_, ?_, ?_, ?_, fun _ _ => hz1, fun _ _ => hz2, hla⟩ ?_
      · unfold vision_Seen.f; rw [HR, ← hseq hR]; simp [hR]
      · unfold vision_In.f
        rw [check_f hn0 hw0, hR, kcheck_f, HR]
        cases boxF x0 x1 y0 y1
        · simp
        · simp [hseq2 hR]
      · intro _ _ h
        rw [if_pos h]
        exact F6
      all_goals first | (intro h; cases h; done) | (intro _ h; cases h; done) | (intro _ h; simp [h]; done) | exact fun _ _ => ⟨rfl, rfl⟩ | (intro _ _ h; simp [h]; done) | (rw [hseq hR]; exact hz0)
set_option maxHeartbeats 1000000 in
theorem seen_walk (W : World) (args : Array Value) {H : Type} {enc : TypeId × Value → H} (ds : List (DataW H)) (p : List MemPlace) (base : Nat)
    (hval : ∀ (j : Nat) t v, Try.f8.params[j]? = some t → args[j]? = some v → Value.okWide Try.prog W .any base t v)
    (hA : DataW.TrodAll enc Try.prog W 0 (fun _ => true) true Try.f8.params.toList args.toList ds p) :
    Calls Try.prog 8 args W fun e W' => e = .returned (.bool true) ∧ Below W.heap.size W W' := by
  rw [Try.params8] at hA hval
  obtain ⟨v0, vs0, d0, ds0, p0, q0, hargs, rfl, rfl, h0, r0⟩ := trodAll_cons hA
  obtain ⟨v1, vs1, d1, ds1, p1, q1, rfl, rfl, rfl, h1, r1⟩ := trodAll_cons r0
  obtain ⟨v2, vs2, d2, ds2, p2, q2, rfl, rfl, rfl, h2, r2⟩ := trodAll_cons r1
  obtain ⟨rfl, rfl, rfl⟩ := trodAll_nil r2
  obtain rfl : args = #[v0, v1, v2] := by cases args; simp_all
  obtain ⟨x0, cs0, rfl, o0, w0⟩ := op25.agg Try.underlying25 (hval 0 25 v0 rfl rfl) h0
  obtain ⟨A0_1, c0_1, g0, e0_1, k0_1⟩ := k25_open o0
  obtain rfl : cs0 = #[.int .u64 x0.f0, .slice A0_1 x0.f1.length c0_1] := by cases cs0; simp_all
  obtain ⟨x1, ⟨A1, c1, g1, e1, k1⟩, w1⟩ := op51.val h1
  obtain ⟨a1, len1, cap1, rfl⟩ := okWide_slice Try.underlying51 (hval 1 51 v1 rfl rfl)
  simp only [Value.cells, List.cons.injEq, Value.slice.injEq, and_true] at g1
  obtain ⟨rfl, rfl, rfl⟩ := g1
  obtain ⟨x2, cs2, rfl, o2, w2⟩ := op53.agg Try.underlying53 (hval 2 53 v2 rfl rfl) h2
  obtain g2 := k53_open o2
  obtain rfl : cs2 = #[.int .u64 x2.f0.f0, .bool x2.f0.f1, .int .u64 x2.f0.f2, .int .i64 x2.f1.f0, .int .i64 x2.f1.f1, .int .i64 x2.f1.f2, .int .i64 x2.f1.f3, .int .u32 x2.f2] := by cases cs2; simp_all
  exact law_all x0.f0 _ _ x0.f1 _ _ x1 x2.f0.f0 x2.f0.f1 x2.f0.f2 x2.f1.f0 x2.f1.f1 x2.f1.f2 x2.f1.f3 x2.f2 W k0_1 e0_1 k1 e1 (u64_bounds w0.1).1 (u64_bounds w2.1.2.2).1 w0.2.2 w1.2
set_option maxRecDepth 100000 in
theorem seen_lifted (os : Os) (started : os.Started) (H : Type) (enc : TypeId × Value → H) :
    ReturnsInHanded {} Try.checked os 8 .any (Rows.visionSeenSpec.pre6 enc Try.prog Try.f8 Rows.visionSeenRow.domain false) (Rows.visionSeenSpec.post enc Try.prog Try.f8 false true false false) :=
  law_lifted os started (by kernel_rfl) Try.func8 rfl (fun ds hd => match ds, hd with | [_, _, _], _ => rfl) (by kernel_rfl) (by kernel_rfl)
    (ChangeSpec.witness6 (enc := enc) (C := Try.checked) false ⟨#[], #[.agg #[.int .u64 0, .slice none 0 0], .slice none 0 0, .agg #[.int .u64 0, .bool false, .int .u64 0, .int .i64 0, .int .i64 0, .int .i64 0, .int .i64 0, .int .u32 0]], []⟩ 8 (by kernel_rfl) (by kernel_rfl) (by kernel_rfl) (by kernel_rfl))
    (fun W args ds p base hval hA _ => seen_walk W args ds p base hval hA)
end Go.Proofs.Ytfggjefncnhikaa.V
namespace Go.Proofs.Ytfggjefncnhikaa
open Go.ChangeShapes Go.WideShapes Go.ChangeAt Go.RowKit
theorem VisionSeen : Rows.VisionSeenSaid := OpenClaim.holds_of_wide 8 Try.f8 rfl rfl rfl rfl rfl rfl rfl ⟨rfl, rfl, rfl, rfl, rfl⟩ rfl rfl rfl rfl rfl (by kernel_rfl) Try.func8 (by kernel_rfl) (of_decide_eq_true (by kernel_rfl)) (by unfold Func.isWrapper; first | (rw [if_pos (by decide +kernel)]; kernel_rfl) | (rw [if_neg (by decide +kernel)]; exact ⟨rfl, rfl⟩)) (fun os started H enc _ => V.seen_lifted os started H enc)
end Go.Proofs.Ytfggjefncnhikaa
