/- What the row of this claim reaches. No condition. -/
import Derived.Test.YtiamkgoajkfofaaDoorXSTab
import Derived.Test.YtiamkgoajkfofaaDoorXWMore
import Derived.Test.YtiamkgoajkfofaaDoorXReg
set_option linter.unusedVariables false
set_option linter.unusedSimpArgs false
namespace Go.Proofs.YtiamkgoajkfofaaDoor
open Go.RowKit Go.Proofs.YtiamkgoajkfofaaDoorW.PrintWords Go.Proofs.YtiamkgoajkfofaaDoorW.PrintLast Go.Proofs.YtiamkgoajkfofaaDoorW.PrintMore
def plainF (a0 : Int) (a1 : Bool) (a2 a3 a4 a5 a6 a7 : Int) : Int × Bool × Int × Int × Int × Int × Int × Int :=
  if a0 = 1 then (a0, a1, 0, 0, 0, 0, 0, 0) else if a0 = 2 then (a0, false, a2, a3, a4, a5, a6, a7) else if a0 = 3 then (a0, false, a2, 0, 0, 0, 0, 0) else if a0 = 4 then (a0, false, 0, a3, a4, a5, a6, 0) else (a0, false, 0, 0, 0, 0, 0, 0)
section
variable (a0 : Int) (a1 : Bool) (a2 a3 a4 a5 a6 a7 : Int)
set_option maxHeartbeats 4000000 in
set_option maxRecDepth 100000 in
theorem plain_end (w W : World) (v0 : Int) (v1 : Bool) (v2 v3 v4 v5 v6 v7 : Int) (hB : Below w.heap.size w W) (b1 : Blk W (w.heap.size + 1) 27 #[.int .i64 0, .bool false, .int .u32 0, .int .i64 0, .int .i64 0, .int .i64 0, .int .i64 0, .int .i64 0]) (b2 : Blk W (w.heap.size + 1 + 1) 27 #[.int .i64 v0, .bool v1, .int .u32 v2, .int .i64 v3, .int .i64 v4, .int .i64 v5, .int .i64 v6, .int .i64 v7]) (u4 u5 u6 u7 u8 u9 u10 u11 u12 u13 u14 u15 u16 u17 u18 u19 u20 u21 u22 u23 u24 u25 u26 u27 u28 u29 u30 u31 u32 u33 u34 u35 : Value) :
    ((Go.Code.region 11 #[{ dst := some 35, op := Go.Op.load 27 (Go.Operand.tmp 3), type := 27, pos := "session.go:42", after := #[], guard := none }, { dst := none, op := Go.Op.store 27 (Go.Operand.tmp 2) (Go.Operand.tmp 35), type := 0, pos := "session.go:42", after := #[{ on := 0, ground := Go.Ground.data }, { on := 0, ground := Go.Ground.phase }], guard := none }] false).seq Go.Code.ret).wp Tryd.prog (bodyPost Tryd.prog Tryd.f32 fun e w' => e = .returned (.agg #[.int .i64 v0, .bool v1, .int .u32 v2, .int .i64 v3, .int .i64 v4, .int .i64 v5, .int .i64 v6, .int .i64 v7]) ∧ Below w.heap.size w w') ⟨#[.agg #[.int .i64 a0, .bool a1, .int .u32 a2, .int .i64 a3, .int .i64 a4, .int .i64 a5, .int .i64 a6, .int .i64 a7], .pointer (some ⟨w.heap.size, 0, none⟩), .pointer (some ⟨w.heap.size + 1, 0, none⟩), .pointer (some ⟨w.heap.size + 1 + 1, 0, none⟩), u4, u5, u6, u7, u8, u9, u10, u11, u12, u13, u14, u15, u16, u17, u18, u19, u20, u21, u22, u23, u24, u25, u26, u27, u28, u29, u30, u31, u32, u33, u34, u35], []⟩ W := by
  have k0 := b1.cell 0
  have k1 := b1.cell 1
  have k2 := b1.cell 2
  have k3 := b1.cell 3
  have k4 := b1.cell 4
  have k5 := b1.cell 5
  have k6 := b1.cell 6
  have k7 := b1.cell 7
  have f0 := b1.frozen 0
  have f1 := b1.frozen 1
  have f2 := b1.frozen 2
  have f3 := b1.frozen 3
  have f4 := b1.frozen 4
  have f5 := b1.frozen 5
  have f6 := b1.frozen 6
  have f7 := b1.frozen 7
  have c0 := b2.cell 0
  have c1 := b2.cell 1
  have c2 := b2.cell 2
  have c3 := b2.cell 3
  have c4 := b2.cell 4
  have c5 := b2.cell 5
  have c6 := b2.cell 6
  have c7 := b2.cell 7
  simp at k0 k1 k2 k3 k4 k5 k6 k7 c0 c1 c2 c3 c4 c5 c6 c7
  go_wp2
  have bE : Blk ((((((((W.setCell ⟨w.heap.size + 1, 0, none⟩ (.int .i64 v0)).setCell ⟨w.heap.size + 1, 1, none⟩ (.bool v1)).setCell ⟨w.heap.size + 1, 2, none⟩ (.int .u32 v2)).setCell ⟨w.heap.size + 1, 3, none⟩ (.int .i64 v3)).setCell ⟨w.heap.size + 1, 4, none⟩ (.int .i64 v4)).setCell ⟨w.heap.size + 1, 5, none⟩ (.int .i64 v5)).setCell ⟨w.heap.size + 1, 6, none⟩ (.int .i64 v6)).setCell ⟨w.heap.size + 1, 7, none⟩ (.int .i64 v7)) (w.heap.size + 1) 27 #[.int .i64 v0, .bool v1, .int .u32 v2, .int .i64 v3, .int .i64 v4, .int .i64 v5, .int .i64 v6, .int .i64 v7] := by simpa using ((((((((b1.set_ 0 (.int .i64 v0)).set_ 1 (.bool v1)).set_ 2 (.int .u32 v2)).set_ 3 (.int .i64 v3)).set_ 4 (.int .i64 v4)).set_ 5 (.int .i64 v5)).set_ 6 (.int .i64 v6)).set_ 7 (.int .i64 v7))
  have hE := ((((((((hB.setCell (p := ⟨w.heap.size + 1, 0, none⟩) (Nat.le_succ _) (.int .i64 v0)).setCell (p := ⟨w.heap.size + 1, 1, none⟩) (Nat.le_succ _) (.bool v1)).setCell (p := ⟨w.heap.size + 1, 2, none⟩) (Nat.le_succ _) (.int .u32 v2)).setCell (p := ⟨w.heap.size + 1, 3, none⟩) (Nat.le_succ _) (.int .i64 v3)).setCell (p := ⟨w.heap.size + 1, 4, none⟩) (Nat.le_succ _) (.int .i64 v4)).setCell (p := ⟨w.heap.size + 1, 5, none⟩) (Nat.le_succ _) (.int .i64 v5)).setCell (p := ⟨w.heap.size + 1, 6, none⟩) (Nat.le_succ _) (.int .i64 v6)).setCell (p := ⟨w.heap.size + 1, 7, none⟩) (Nat.le_succ _) (.int .i64 v7))
  clear k0 k1 k2 k3 k4 k5 k6 k7 f0 f1 f2 f3 f4 f5 f6 f7 c0 c1 c2 c3 c4 c5 c6 c7 b1 b2 hB
  generalize ((((((((W.setCell ⟨w.heap.size + 1, 0, none⟩ (.int .i64 v0)).setCell ⟨w.heap.size + 1, 1, none⟩ (.bool v1)).setCell ⟨w.heap.size + 1, 2, none⟩ (.int .u32 v2)).setCell ⟨w.heap.size + 1, 3, none⟩ (.int .i64 v3)).setCell ⟨w.heap.size + 1, 4, none⟩ (.int .i64 v4)).setCell ⟨w.heap.size + 1, 5, none⟩ (.int .i64 v5)).setCell ⟨w.heap.size + 1, 6, none⟩ (.int .i64 v6)).setCell ⟨w.heap.size + 1, 7, none⟩ (.int .i64 v7)) = W2 at bE hE ⊢
  have k0 := bE.cell 0
  have k1 := bE.cell 1
  have k2 := bE.cell 2
  have k3 := bE.cell 3
  have k4 := bE.cell 4
  have k5 := bE.cell 5
  have k6 := bE.cell 6
  have k7 := bE.cell 7
  simp at k0 k1 k2 k3 k4 k5 k6 k7
  refine bodyPost_ret (v := .agg #[.int .i64 v0, .bool v1, .int .u32 v2, .int .i64 v3, .int .i64 v4, .int .i64 v5, .int .i64 v6, .int .i64 v7]) (by simp [results, Tryd.results32, go_sem, *]) rfl ⟨rfl, hE⟩
set_option maxHeartbeats 8000000 in
set_option maxRecDepth 100000 in
theorem plain_any (w : World) (r : Int × Bool × Int × Int × Int × Int × Int × Int) (hr : plainF a0 a1 a2 a3 a4 a5 a6 a7 = r) :
    Calls Tryd.prog 32 #[.agg #[.int .i64 a0, .bool a1, .int .u32 a2, .int .i64 a3, .int .i64 a4, .int .i64 a5, .int .i64 a6, .int .i64 a7]] w fun e w' => e = .returned (.agg #[.int .i64 r.1, .bool r.2.1, .int .u32 r.2.2.1, .int .i64 r.2.2.2.1, .int .i64 r.2.2.2.2.1, .int .i64 r.2.2.2.2.2.1, .int .i64 r.2.2.2.2.2.2.1, .int .i64 r.2.2.2.2.2.2.2]) ∧ Below w.heap.size w w' := by
  obtain ⟨W1, hW1⟩ : ∃ W, ((w.alloc (.cells #[.int .i64 a0, .bool a1, .int .u32 a2, .int .i64 a3, .int .i64 a4, .int .i64 a5, .int .i64 a6, .int .i64 a7] 27)).alloc (.cells #[.int .i64 0, .bool false, .int .u32 0, .int .i64 0, .int .i64 0, .int .i64 0, .int .i64 0, .int .i64 0] 27)).alloc (.cells #[.int .i64 a0, .bool false, .int .u32 0, .int .i64 0, .int .i64 0, .int .i64 0, .int .i64 0, .int .i64 0] 27) = W := ⟨_, rfl⟩
  have b0 : Blk W1 w.heap.size 27 #[.int .i64 a0, .bool a1, .int .u32 a2, .int .i64 a3, .int .i64 a4, .int .i64 a5, .int .i64 a6, .int .i64 a7] := by rw [← hW1]; exact Blk.alloc (Blk.alloc (Blk.newAt rfl) _) _
  have b1 : Blk W1 (w.heap.size + 1) 27 #[.int .i64 0, .bool false, .int .u32 0, .int .i64 0, .int .i64 0, .int .i64 0, .int .i64 0, .int .i64 0] := by rw [← hW1]; exact Blk.alloc (Blk.newAt (by simp)) _
  have b2 : Blk W1 (w.heap.size + 1 + 1) 27 #[.int .i64 a0, .bool false, .int .u32 0, .int .i64 0, .int .i64 0, .int .i64 0, .int .i64 0, .int .i64 0] := by rw [← hW1]; exact Blk.newAt (by simp)
  have hB : Below w.heap.size w W1 := by rw [← hW1]; (repeat (first | exact Below.refl _ _ | refine Below.drew ?_ | refine below_drewN' ?_ | refine Below.alloc ?_ (by simp; try omega) _ | refine Below.setCell ?_ (by simp; try omega) _))
  have HW := Lib.hid hW1
  have HR := Lib.hid hr
  clear hW1 hr
  have c0 := b0.cell 0
  have c1 := b0.cell 1
  have c2 := b0.cell 2
  have c3 := b0.cell 3
  have c4 := b0.cell 4
  have c5 := b0.cell 5
  have c6 := b0.cell 6
  have c7 := b0.cell 7
  have f0 := b2.frozen 0
  have f1 := b2.frozen 1
  have f2 := b2.frozen 2
  have f3 := b2.frozen 3
  have f4 := b2.frozen 4
  have f5 := b2.frozen 5
  have f6 := b2.frozen 6
  have f7 := b2.frozen 7
  have d0 := b2.cell 0
  have d1 := b2.cell 1
  have d2 := b2.cell 2
  have d3 := b2.cell 3
  have d4 := b2.cell 4
  have d5 := b2.cell 5
  have d6 := b2.cell 6
  have d7 := b2.cell 7
  simp at c0 c1 c2 c3 c4 c5 c6 c7 d0 d1 d2 d3 d4 d5 d6 d7
  have hr := HR.out
  unfold plainF at hr
  clear HR
  go_enter Tryd.func32, Tryd.ntmps32
  go_upto_region 2 with fail
  rw [HW.out]
  rename_i K2 hK2 KK hKK
  have HK2 := Lib.hid hK2
  clear hK2
  by_cases h1 : a0 = 1
  · rw [if_pos h1] at hr
    have n1 : (a0 == 1) = true := beq_iff_eq.mpr h1
    have HR2 := Lib.hid hr
    clear hr h1
    go_wp2
    refine HK2.out _ _ ?_
    obtain rfl := HR2.out
    exact plain_end a0 a1 a2 a3 a4 a5 a6 a7 w _ a0 a1 0 0 0 0 0 0 (hB.setCell (p := ⟨w.heap.size + 1 + 1, 1, none⟩) (by show _ ≤ w.heap.size + 1 + 1; omega) (.bool a1)) (b1.far (p := ⟨w.heap.size + 1 + 1, 1, none⟩) (by simp) (.bool a1)) (by simpa using (b2.set_ 1 (.bool a1))) _ _ _ _ _ _ _ _ _ _ _ _ _ _ _ _ _ _ _ _ _ _ _ _ _ _ _ _ _ _ _ _
  rw [if_neg h1] at hr
  have n1 : (a0 == 1) = false := beq_eq_false_iff_ne.mpr h1
  clear h1
  by_cases h2 : a0 = 2
  · rw [if_pos h2] at hr
    have n2 : (a0 == 2) = true := beq_iff_eq.mpr h2
    have HR2 := Lib.hid hr
    clear hr h2
    go_upto_region 6 with fail
    go_region_held3 (fun w' => w'.cell? ⟨w.heap.size, 2, none⟩ = some (.int .u32 a2) ∧ w'.cell? ⟨w.heap.size, 3, none⟩ = some (.int .i64 a3) ∧ w'.cell? ⟨w.heap.size, 4, none⟩ = some (.int .i64 a4) ∧ w'.cell? ⟨w.heap.size, 5, none⟩ = some (.int .i64 a5) ∧ w'.cell? ⟨w.heap.size, 6, none⟩ = some (.int .i64 a6) ∧ w'.cell? ⟨w.heap.size, 7, none⟩ = some (.int .i64 a7)) ((first | (go_simp; done) | (simp [go_sem, *]; done))) (fail)
    go_wp2_with fail
    refine HK2.out _ _ ?_
    obtain rfl := HR2.out
    have g2 := ((((((b2.set_ 2 (.int .u32 a2)).set_ 3 (.int .i64 a3)).set_ 4 (.int .i64 a4)).set_ 5 (.int .i64 a5)).set_ 6 (.int .i64 a6)).set_ 7 (.int .i64 a7))
    simp at g2
    exact plain_end a0 a1 a2 a3 a4 a5 a6 a7 w _ a0 false a2 a3 a4 a5 a6 a7 (Below.drew ((((((hB.setCell (p := ⟨w.heap.size + 1 + 1, 2, none⟩) (by show _ ≤ w.heap.size + 1 + 1; omega) (.int .u32 a2)).setCell (p := ⟨w.heap.size + 1 + 1, 3, none⟩) (by show _ ≤ w.heap.size + 1 + 1; omega) (.int .i64 a3)).setCell (p := ⟨w.heap.size + 1 + 1, 4, none⟩) (by show _ ≤ w.heap.size + 1 + 1; omega) (.int .i64 a4)).setCell (p := ⟨w.heap.size + 1 + 1, 5, none⟩) (by show _ ≤ w.heap.size + 1 + 1; omega) (.int .i64 a5)).setCell (p := ⟨w.heap.size + 1 + 1, 6, none⟩) (by show _ ≤ w.heap.size + 1 + 1; omega) (.int .i64 a6)).setCell (p := ⟨w.heap.size + 1 + 1, 7, none⟩) (by show _ ≤ w.heap.size + 1 + 1; omega) (.int .i64 a7))) (Blk.drew ((((((b1.far (p := ⟨w.heap.size + 1 + 1, 2, none⟩) (by simp) (.int .u32 a2)).far (p := ⟨w.heap.size + 1 + 1, 3, none⟩) (by simp) (.int .i64 a3)).far (p := ⟨w.heap.size + 1 + 1, 4, none⟩) (by simp) (.int .i64 a4)).far (p := ⟨w.heap.size + 1 + 1, 5, none⟩) (by simp) (.int .i64 a5)).far (p := ⟨w.heap.size + 1 + 1, 6, none⟩) (by simp) (.int .i64 a6)).far (p := ⟨w.heap.size + 1 + 1, 7, none⟩) (by simp) (.int .i64 a7))) (Blk.drew g2) _ _ _ _ _ _ _ _ _ _ _ _ _ _ _ _ _ _ _ _ _ _ _ _ _ _ _ _ _ _ _ _
  rw [if_neg h2] at hr
  have n2 : (a0 == 2) = false := beq_eq_false_iff_ne.mpr h2
  clear h2
  by_cases h3 : a0 = 3
  · rw [if_pos h3] at hr
    have n3 : (a0 == 3) = true := beq_iff_eq.mpr h3
    have HR2 := Lib.hid hr
    clear hr h3
    go_wp2
    refine HK2.out _ _ ?_
    obtain rfl := HR2.out
    exact plain_end a0 a1 a2 a3 a4 a5 a6 a7 w _ a0 false a2 0 0 0 0 0 (hB.setCell (p := ⟨w.heap.size + 1 + 1, 2, none⟩) (by show _ ≤ w.heap.size + 1 + 1; omega) (.int .u32 a2)) (b1.far (p := ⟨w.heap.size + 1 + 1, 2, none⟩) (by simp) (.int .u32 a2)) (by simpa using (b2.set_ 2 (.int .u32 a2))) _ _ _ _ _ _ _ _ _ _ _ _ _ _ _ _ _ _ _ _ _ _ _ _ _ _ _ _ _ _ _ _
  rw [if_neg h3] at hr
  have n3 : (a0 == 3) = false := beq_eq_false_iff_ne.mpr h3
  clear h3
  by_cases h4 : a0 = 4
  · rw [if_pos h4] at hr
    have n4 : (a0 == 4) = true := beq_iff_eq.mpr h4
    have HR2 := Lib.hid hr
    clear hr h4
    go_wp2
    refine HK2.out _ _ ?_
    obtain rfl := HR2.out
    exact plain_end a0 a1 a2 a3 a4 a5 a6 a7 w _ a0 false 0 a3 a4 a5 a6 0 ((((hB.setCell (p := ⟨w.heap.size + 1 + 1, 3, none⟩) (by show _ ≤ w.heap.size + 1 + 1; omega) (.int .i64 a3)).setCell (p := ⟨w.heap.size + 1 + 1, 4, none⟩) (by show _ ≤ w.heap.size + 1 + 1; omega) (.int .i64 a4)).setCell (p := ⟨w.heap.size + 1 + 1, 5, none⟩) (by show _ ≤ w.heap.size + 1 + 1; omega) (.int .i64 a5)).setCell (p := ⟨w.heap.size + 1 + 1, 6, none⟩) (by show _ ≤ w.heap.size + 1 + 1; omega) (.int .i64 a6)) ((((b1.far (p := ⟨w.heap.size + 1 + 1, 3, none⟩) (by simp) (.int .i64 a3)).far (p := ⟨w.heap.size + 1 + 1, 4, none⟩) (by simp) (.int .i64 a4)).far (p := ⟨w.heap.size + 1 + 1, 5, none⟩) (by simp) (.int .i64 a5)).far (p := ⟨w.heap.size + 1 + 1, 6, none⟩) (by simp) (.int .i64 a6)) (by simpa using ((((b2.set_ 3 (.int .i64 a3)).set_ 4 (.int .i64 a4)).set_ 5 (.int .i64 a5)).set_ 6 (.int .i64 a6))) _ _ _ _ _ _ _ _ _ _ _ _ _ _ _ _ _ _ _ _ _ _ _ _ _ _ _ _ _ _ _ _
  rw [if_neg h4] at hr
  have n4 : (a0 == 4) = false := beq_eq_false_iff_ne.mpr h4
  clear h4
  have HR2 := Lib.hid hr
  clear hr
  go_wp2
  refine HK2.out _ _ ?_
  obtain rfl := HR2.out
  exact plain_end a0 a1 a2 a3 a4 a5 a6 a7 w _ a0 false 0 0 0 0 0 0 hB b1 b2 _ _ _ _ _ _ _ _ _ _ _ _ _ _ _ _ _ _ _ _ _ _ _ _ _ _ _ _ _ _ _ _
end
end Go.Proofs.YtiamkgoajkfofaaDoor
