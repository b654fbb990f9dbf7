/- What the row of this claim reaches. No condition. -/
import Derived.Test.YtknlbfandkmeiaaUMKeepsAny
set_option linter.unusedVariables false
set_option linter.unusedSimpArgs false
section
namespace Go.Proofs.Ytknlbfandkmeiaa.M
open Go.RowKit Go.Proofs.YtknlbfandkmeiaaW.PrintWords Go.Proofs.YtknlbfandkmeiaaW.PrintLast Go.Proofs.YtknlbfandkmeiaaW.PrintMore
attribute [local go_sem] max2_int min2_int max_two min_two max_three min_three max_four min_four   -- for this text's walks alone
def gazetteerlaw22_ModelKeeps.f (l0_0 : List S51) (a1_0 : Int) (a1_1 : Bool) (a1_2 a1_3 a1_4 a1_5 a1_6 a1_7 : Int) (a2_0 : Int) (a2_1 : Bool) (a2_2 a2_3 a2_4 a2_5 a2_6 a2_7 : Int) : Option Bool := if 0 ≤ a1_2 then some true else none
theorem gazetteerlaw22_ModelKeeps.calls (A0_0 : Option Addr) (c0_0 : Nat) (l0_0 : List (S51)) (a1_0 : Int) (a1_1 : Bool) (a1_2 a1_3 a1_4 a1_5 a1_6 a1_7 : Int) (a2_0 : Int) (a2_1 : Bool) (a2_2 a2_3 a2_4 a2_5 a2_6 a2_7 : Int) (r : Bool) (w : World) (hr0_0 : Kd.C k51 w A0_0 l0_0.length l0_0) (hc0_0 : l0_0.length ≤ c0_0) (h : gazetteerlaw22_ModelKeeps.f l0_0 a1_0 a1_1 a1_2 a1_3 a1_4 a1_5 a1_6 a1_7 a2_0 a2_1 a2_2 a2_3 a2_4 a2_5 a2_6 a2_7 = some r) :
    Calls Try.prog 7 #[.agg #[.slice A0_0 l0_0.length c0_0], .agg #[.int .i64 a1_0, .bool a1_1, .int .u32 a1_2, .int .i64 a1_3, .int .i64 a1_4, .int .i64 a1_5, .int .i64 a1_6, .int .i64 a1_7], .agg #[.int .i64 a2_0, .bool a2_1, .int .u32 a2_2, .int .i64 a2_3, .int .i64 a2_4, .int .i64 a2_5, .int .i64 a2_6, .int .i64 a2_7]] w fun e w' => e = .returned (.bool r) ∧ Below w.heap.size w w' := by
  unfold gazetteerlaw22_ModelKeeps.f at h
  by_cases h0 : 0 ≤ a1_2
  · rw [if_pos h0] at h
    injection h with h
    subst h
    exact keeps_any A0_0 c0_0 l0_0 ⟨a1_0, a1_1, a1_2, ⟨a1_3, a1_4, a1_5, a1_6⟩, a1_7⟩ ⟨a2_0, a2_1, a2_2, ⟨a2_3, a2_4, a2_5, a2_6⟩, a2_7⟩ w hr0_0 hc0_0 h0
  · rw [if_neg h0] at h; cases h
end Go.Proofs.Ytknlbfandkmeiaa.M
end
section
namespace Go.Proofs.Ytknlbfandkmeiaa.M
open Go.RowKit Go.Proofs.YtknlbfandkmeiaaW.PrintWords Go.Proofs.YtknlbfandkmeiaaW.PrintLast Go.Proofs.YtknlbfandkmeiaaW.PrintMore
attribute [local go_sem] max2_int min2_int max_two min_two max_three min_three max_four min_four   -- for this text's walks alone
def wf36 (x : S36) : Prop := ((Lit.int .i64 x.f0).wf = true) ∧ ((Lit.int .i64 x.f1).wf = true) ∧ ((Lit.int .i64 x.f2).wf = true) ∧ ((Lit.int .i64 x.f3).wf = true)
theorem op36 : Opens 36 k36 wf36 := Opens.iso (fun x : S36 => (x.f0, x.f1, x.f2, x.f3)) (fun a => ⟨a.1, a.2.1, a.2.2.1, a.2.2.2⟩) (fun _ => rfl) (Opens.struct Try.underlying36 (by kernel_rfl) (OpensF.cons rfl (Opens.int Try.underlying2 (by kernel_rfl)) (OpensF.cons rfl (Opens.int Try.underlying2 (by kernel_rfl)) (OpensF.cons rfl (Opens.int Try.underlying2 (by kernel_rfl)) (OpensF.last rfl (Opens.int Try.underlying2 (by kernel_rfl)))))))
def wf51 (x : S51) : Prop := ((Lit.int .u32 x.f0).wf = true) ∧ (wf36 x.f1) ∧ ((Lit.int .i64 x.f2).wf = true)
theorem op51 : Opens 51 k51 wf51 := Opens.iso (fun x : S51 => (x.f0, x.f1, x.f2)) (fun a => ⟨a.1, a.2.1, a.2.2⟩) (fun _ => rfl) (Opens.struct Try.underlying51 (by kernel_rfl) (OpensF.cons rfl (Opens.int Try.underlying34 (by kernel_rfl)) (OpensF.cons rfl op36 (OpensF.last rfl (Opens.int Try.underlying2 (by kernel_rfl))))))
def wf22 (l : List (S51)) : Prop := l.length ≤ maxLen ∧ ∀ a ∈ l, wf51 a
theorem op22 : Opens 22 (Kd.slice 51 k51) wf22 := Opens.slice Try.underlying22 (by kernel_rfl) op51
def wf24 (x : S24) : Prop := (wf22 x.f0)
theorem op24 : Opens 24 k24 wf24 := Opens.iso (fun x : S24 => x.f0) (fun a => ⟨a⟩) (fun _ => rfl) (Opens.struct Try.underlying24 (by kernel_rfl) (OpensF.last rfl op22))
def wf38 (x : S38) : Prop := ((Lit.int .i64 x.f0).wf = true) ∧ (True) ∧ ((Lit.int .u32 x.f2).wf = true) ∧ (wf36 x.f3) ∧ ((Lit.int .i64 x.f4).wf = true)
theorem op38 : Opens 38 k38 wf38 := Opens.iso (fun x : S38 => (x.f0, x.f1, x.f2, x.f3, x.f4)) (fun a => ⟨a.1, a.2.1, a.2.2.1, a.2.2.2.1, a.2.2.2.2⟩) (fun _ => rfl) (Opens.struct Try.underlying38 (by kernel_rfl) (OpensF.cons rfl (Opens.int Try.underlying3 (by kernel_rfl)) (OpensF.cons rfl (Opens.bool Try.underlying4 (by kernel_rfl)) (OpensF.cons rfl (Opens.int Try.underlying34 (by kernel_rfl)) (OpensF.cons rfl op36 (OpensF.last rfl (Opens.int Try.underlying2 (by kernel_rfl))))))))
end Go.Proofs.Ytknlbfandkmeiaa.M
end
section
namespace Go.Proofs.Ytknlbfandkmeiaa.M
open Go.RowKit Go.Proofs.YtknlbfandkmeiaaW.PrintWords Go.Proofs.YtknlbfandkmeiaaW.PrintLast Go.Proofs.YtknlbfandkmeiaaW.PrintMore
attribute [local go_sem] max2_int min2_int max_two min_two max_three min_three max_four min_four   -- for this text's walks alone
def ModelKeeps_Pure : Prop := ∀ (x0 : S24) (x1 : S38) (x2 : S38), wf24 x0 → wf38 x1 → wf38 x2 → gazetteerlaw22_ModelKeeps.f x0.f0 x1.f0 x1.f1 x1.f2 x1.f3.f0 x1.f3.f1 x1.f3.f2 x1.f3.f3 x1.f4 x2.f0 x2.f1 x2.f2 x2.f3.f0 x2.f3.f1 x2.f3.f2 x2.f3.f3 x2.f4 = some true
end Go.Proofs.Ytknlbfandkmeiaa.M
end
