/- What the row of this claim reaches. No condition. -/
import Derived.Test.YtknlbfandkmeiaaQMTells1
set_option linter.unusedVariables false
set_option linter.unusedSimpArgs false
namespace Go.Proofs.Ytknlbfandkmeiaa.M
open Go.RowKit Go.Proofs.YtknlbfandkmeiaaW.PrintWords Go.Proofs.YtknlbfandkmeiaaW.PrintLast Go.Proofs.YtknlbfandkmeiaaW.PrintMore
set_option maxHeartbeats 8000000 in
set_option maxRecDepth 100000 in
theorem tells_any (A0 : Option Addr) (c0 : Nat) (l0 : List S24) (k : S36) (A2 : Option Addr) (c2 : Nat) (l2 : List S41) (w : World) (hr0 : Kd.C k24 w A0 l0.length l0) (hr2 : Kd.C k41 w A2 l2.length l2) (hp : ∀ t ∈ l0, ∀ x ∈ t.f0, 0 ≤ x.f0) :
    Calls Try.prog 6 #[.slice A0 l0.length c0, .agg #[.int .i64 k.f0, .int .i64 k.f1, .int .i64 k.f2, .int .i64 k.f3], .slice A2 l2.length c2] w fun e w' => e = .returned (.bool true) ∧ Below w.heap.size w w' := by
  have HA := Lib.hid hr0
  have HR2 := Lib.hid hr2
  have HP := Lib.hid hp
  clear hr0 hr2 hp
  obtain ⟨W0, hW0⟩ : ∃ W, w.alloc (.cells #[.int .i64 k.f0, .int .i64 k.f1, .int .i64 k.f2, .int .i64 k.f3] 36) = W := ⟨_, rfl⟩
  have p4 : Blk W0 w.heap.size 36 #[.int .i64 k.f0, .int .i64 k.f1, .int .i64 k.f2, .int .i64 k.f3] := by rw [← hW0]; exact Blk.new w 36 _
  have hB0 : Below w.heap.size w W0 := by rw [← hW0]; exact keep_below_alloc _ (Below.refl _ _)
  have HW := Lib.hid hW0
  clear hW0
  go_enter Try.func6, Try.ntmps6
  go_upto_region 1 with fail
  rename_i K1 hK1 K0 hK0
  have HK1 := Lib.hid hK1
  clear hK1
  rw [HW.out]
  go_wp2_with (go_at_call 13; (with_reducible refine (wakes_call _).out.mono ?_); rintro e w1 ⟨rfl, hb1⟩)
  refine HK1.out _ _ ?_
  exact tells_one A0 c0 l0 k A2 c2 l2 w _ _ HA.out HR2.out HP.out (p4.keep hb1) (keep_below hB0 hb1) _ _ _ _ _ _ _ _ _ _ _ _ _ _ _ _ _ _ _ _ _ _ _ _ _ _ _ _ _ _ _ _ _ _ _ _ _ _ _ _ _ _ _ _ _ _ _ _ _ _ _ _ _ _ _ _ _ _ _ _ _ _ _ _ _ _ _ _ _ _ _ _ _ _ _ _ _ _ _ _ _ _ _ _ _ _ _ _ _ _ _ _ _ _ _ _ _ _ _ _ _ _ _ _ _ _ _ _ _ _ _ _ _ _ _ _ _ _ _ _ _ _ _ _ _ _ _ _ _ _ _ _ _ _ _ _ _ _ _
end Go.Proofs.Ytknlbfandkmeiaa.M
