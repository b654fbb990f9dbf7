/- What the row of this claim reaches. No condition. -/
import Derived.Test.YtknlbfandkmeiaaJMApplies
set_option linter.unusedVariables false
set_option linter.unusedSimpArgs false
section
namespace Go.Proofs.Ytknlbfandkmeiaa.M
open Go.RowKit Go.Proofs.YtknlbfandkmeiaaW.PrintWords Go.Proofs.YtknlbfandkmeiaaW.PrintLast Go.Proofs.YtknlbfandkmeiaaW.PrintMore
attribute [local go_sem] max2_int min2_int max_two min_two max_three min_three max_four min_four   -- for this text's walks alone
def gazetteerlaw22_ModelApplies.f (l0_0 : List S51) (a1 : Int) (l2 : List S38) : Option Bool := if (∀ x ∈ l0_0, 0 ≤ x.f0) ∧ (∀ o ∈ l2, 0 ≤ o.f2) then some true else none
theorem gazetteerlaw22_ModelApplies.calls (A0_0 : Option Addr) (c0_0 : Nat) (l0_0 : List (S51)) (a1 : Int) (A2 : Option Addr) (c2 : Nat) (l2 : List (S38)) (r : Bool) (w : World) (hr0_0 : Kd.C k51 w A0_0 l0_0.length l0_0) (hc0_0 : l0_0.length ≤ c0_0) (hr2 : Kd.C k38 w A2 l2.length l2) (hc2 : l2.length ≤ c2) (h : gazetteerlaw22_ModelApplies.f l0_0 a1 l2 = some r) :
    Calls Try.prog 4 #[.agg #[.slice A0_0 l0_0.length c0_0], .int .i64 a1, .slice A2 l2.length c2] w fun e w' => e = .returned (.bool r) ∧ Below w.heap.size w w' := by
  unfold gazetteerlaw22_ModelApplies.f at h
  by_cases h0 : (∀ x ∈ l0_0, 0 ≤ x.f0) ∧ (∀ o ∈ l2, 0 ≤ o.f2)
  · rw [if_pos h0] at h
    injection h with h
    subst h
    exact applies_any A0_0 c0_0 l0_0 a1 A2 c2 l2 w hr0_0 hc0_0 hr2 h0.1 h0.2
  · rw [if_neg h0] at h; cases h
end Go.Proofs.Ytknlbfandkmeiaa.M
end
section
namespace Go.Proofs.Ytknlbfandkmeiaa.M
open Go.RowKit Go.Proofs.YtknlbfandkmeiaaW.PrintWords Go.Proofs.YtknlbfandkmeiaaW.PrintLast Go.Proofs.YtknlbfandkmeiaaW.PrintMore
attribute [local go_sem] max2_int min2_int max_two min_two max_three min_three max_four min_four   -- for this text's walks alone
def wf36 (x : S36) : Prop := ((Lit.int .i64 x.f0).wf = true) ∧ ((Lit.int .i64 x.f1).wf = true) ∧ ((Lit.int .i64 x.f2).wf = true) ∧ ((Lit.int .i64 x.f3).wf = true)
theorem op36 : Opens 36 k36 wf36 := Opens.iso (fun x : S36 => (x.f0, x.f1, x.f2, x.f3)) (fun a => ⟨a.1, a.2.1, a.2.2.1, a.2.2.2⟩) (fun _ => rfl) (Opens.struct Try.underlying36 (by kernel_rfl) (OpensF.cons rfl (Opens.int Try.underlying2 (by kernel_rfl)) (OpensF.cons rfl (Opens.int Try.underlying2 (by kernel_rfl)) (OpensF.cons rfl (Opens.int Try.underlying2 (by kernel_rfl)) (OpensF.last rfl (Opens.int Try.underlying2 (by kernel_rfl)))))))
def wf51 (x : S51) : Prop := ((Lit.int .u32 x.f0).wf = true) ∧ (wf36 x.f1) ∧ ((Lit.int .i64 x.f2).wf = true)
theorem op51 : Opens 51 k51 wf51 := Opens.iso (fun x : S51 => (x.f0, x.f1, x.f2)) (fun a => ⟨a.1, a.2.1, a.2.2⟩) (fun _ => rfl) (Opens.struct Try.underlying51 (by kernel_rfl) (OpensF.cons rfl (Opens.int Try.underlying34 (by kernel_rfl)) (OpensF.cons rfl op36 (OpensF.last rfl (Opens.int Try.underlying2 (by kernel_rfl))))))
def wf22 (l : List (S51)) : Prop := l.length ≤ maxLen ∧ ∀ a ∈ l, wf51 a
theorem op22 : Opens 22 (Kd.slice 51 k51) wf22 := Opens.slice Try.underlying22 (by kernel_rfl) op51
def wf24 (x : S24) : Prop := (wf22 x.f0)
theorem op24 : Opens 24 k24 wf24 := Opens.iso (fun x : S24 => x.f0) (fun a => ⟨a⟩) (fun _ => rfl) (Opens.struct Try.underlying24 (by kernel_rfl) (OpensF.last rfl op22))
def wf38 (x : S38) : Prop := ((Lit.int .i64 x.f0).wf = true) ∧ (True) ∧ ((Lit.int .u32 x.f2).wf = true) ∧ (wf36 x.f3) ∧ ((Lit.int .i64 x.f4).wf = true)
theorem op38 : Opens 38 k38 wf38 := Opens.iso (fun x : S38 => (x.f0, x.f1, x.f2, x.f3, x.f4)) (fun a => ⟨a.1, a.2.1, a.2.2.1, a.2.2.2.1, a.2.2.2.2⟩) (fun _ => rfl) (Opens.struct Try.underlying38 (by kernel_rfl) (OpensF.cons rfl (Opens.int Try.underlying3 (by kernel_rfl)) (OpensF.cons rfl (Opens.bool Try.underlying4 (by kernel_rfl)) (OpensF.cons rfl (Opens.int Try.underlying34 (by kernel_rfl)) (OpensF.cons rfl op36 (OpensF.last rfl (Opens.int Try.underlying2 (by kernel_rfl))))))))
def wf25 (l : List (S38)) : Prop := l.length ≤ maxLen ∧ ∀ a ∈ l, wf38 a
theorem op25 : Opens 25 (Kd.slice 38 k38) wf25 := Opens.slice Try.underlying25 (by kernel_rfl) op38
end Go.Proofs.Ytknlbfandkmeiaa.M
end
section
namespace Go.Proofs.Ytknlbfandkmeiaa.M
open Go.RowKit Go.Proofs.YtknlbfandkmeiaaW.PrintWords Go.Proofs.YtknlbfandkmeiaaW.PrintLast Go.Proofs.YtknlbfandkmeiaaW.PrintMore
attribute [local go_sem] max2_int min2_int max_two min_two max_three min_three max_four min_four   -- for this text's walks alone
def ModelApplies_Pure : Prop := ∀ (x0 : S24) (x1 : Int) (x2 : List (S38)), wf24 x0 → (Lit.int .i64 x1).wf = true → wf25 x2 → gazetteerlaw22_ModelApplies.f x0.f0 x1 x2 = some true
end Go.Proofs.Ytknlbfandkmeiaa.M
end
