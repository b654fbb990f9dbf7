/- What the row of this claim reaches. No condition. -/
import Derived.Test.YtknlbfandkmeiaaQMTellsAny
set_option linter.unusedVariables false
set_option linter.unusedSimpArgs false
section
namespace Go.Proofs.Ytknlbfandkmeiaa.M
open Go.RowKit Go.Proofs.YtknlbfandkmeiaaW.PrintWords Go.Proofs.YtknlbfandkmeiaaW.PrintLast Go.Proofs.YtknlbfandkmeiaaW.PrintMore
attribute [local go_sem] max2_int min2_int max_two min_two max_three min_three max_four min_four   -- for this text's walks alone
def gazetteerlaw22_ModelTells.f (l0 : List S24) (a1_0 a1_1 a1_2 a1_3 : Int) (l2 : List S41) : Option Bool := if ∀ t ∈ l0, ∀ x ∈ t.f0, 0 ≤ x.f0 then some true else none
theorem gazetteerlaw22_ModelTells.calls (A0 : Option Addr) (c0 : Nat) (l0 : List (S24)) (a1_0 a1_1 a1_2 a1_3 : Int) (A2 : Option Addr) (c2 : Nat) (l2 : List (S41)) (r : Bool) (w : World) (hr0 : Kd.C k24 w A0 l0.length l0) (hc0 : l0.length ≤ c0) (hr2 : Kd.C k41 w A2 l2.length l2) (hc2 : l2.length ≤ c2) (h : gazetteerlaw22_ModelTells.f l0 a1_0 a1_1 a1_2 a1_3 l2 = some r) :
    Calls Try.prog 6 #[.slice A0 l0.length c0, .agg #[.int .i64 a1_0, .int .i64 a1_1, .int .i64 a1_2, .int .i64 a1_3], .slice A2 l2.length c2] w fun e w' => e = .returned (.bool r) ∧ Below w.heap.size w w' := by
  unfold gazetteerlaw22_ModelTells.f at h
  by_cases h0 : ∀ t ∈ l0, ∀ x ∈ t.f0, 0 ≤ x.f0
  · rw [if_pos h0] at h
    injection h with h
    subst h
    exact tells_any A0 c0 l0 ⟨a1_0, a1_1, a1_2, a1_3⟩ A2 c2 l2 w hr0 hr2 h0
  · rw [if_neg h0] at h; cases h
end Go.Proofs.Ytknlbfandkmeiaa.M
end
section
namespace Go.Proofs.Ytknlbfandkmeiaa.M
open Go.RowKit Go.Proofs.YtknlbfandkmeiaaW.PrintWords Go.Proofs.YtknlbfandkmeiaaW.PrintLast Go.Proofs.YtknlbfandkmeiaaW.PrintMore
attribute [local go_sem] max2_int min2_int max_two min_two max_three min_three max_four min_four   -- for this text's walks alone
def wf36 (x : S36) : Prop := ((Lit.int .i64 x.f0).wf = true) ∧ ((Lit.int .i64 x.f1).wf = true) ∧ ((Lit.int .i64 x.f2).wf = true) ∧ ((Lit.int .i64 x.f3).wf = true)
theorem op36 : Opens 36 k36 wf36 := Opens.iso (fun x : S36 => (x.f0, x.f1, x.f2, x.f3)) (fun a => ⟨a.1, a.2.1, a.2.2.1, a.2.2.2⟩) (fun _ => rfl) (Opens.struct Try.underlying36 (by kernel_rfl) (OpensF.cons rfl (Opens.int Try.underlying2 (by kernel_rfl)) (OpensF.cons rfl (Opens.int Try.underlying2 (by kernel_rfl)) (OpensF.cons rfl (Opens.int Try.underlying2 (by kernel_rfl)) (OpensF.last rfl (Opens.int Try.underlying2 (by kernel_rfl)))))))
def wf51 (x : S51) : Prop := ((Lit.int .u32 x.f0).wf = true) ∧ (wf36 x.f1) ∧ ((Lit.int .i64 x.f2).wf = true)
theorem op51 : Opens 51 k51 wf51 := Opens.iso (fun x : S51 => (x.f0, x.f1, x.f2)) (fun a => ⟨a.1, a.2.1, a.2.2⟩) (fun _ => rfl) (Opens.struct Try.underlying51 (by kernel_rfl) (OpensF.cons rfl (Opens.int Try.underlying34 (by kernel_rfl)) (OpensF.cons rfl op36 (OpensF.last rfl (Opens.int Try.underlying2 (by kernel_rfl))))))
def wf22 (l : List (S51)) : Prop := l.length ≤ maxLen ∧ ∀ a ∈ l, wf51 a
theorem op22 : Opens 22 (Kd.slice 51 k51) wf22 := Opens.slice Try.underlying22 (by kernel_rfl) op51
def wf24 (x : S24) : Prop := (wf22 x.f0)
theorem op24 : Opens 24 k24 wf24 := Opens.iso (fun x : S24 => x.f0) (fun a => ⟨a⟩) (fun _ => rfl) (Opens.struct Try.underlying24 (by kernel_rfl) (OpensF.last rfl op22))
def wf53 (l : List (S24)) : Prop := l.length ≤ maxLen ∧ ∀ a ∈ l, wf24 a
theorem op53 : Opens 53 (Kd.slice 24 k24) wf53 := Opens.slice Try.underlying53 (by kernel_rfl) op24
def wf41 (x : S41) : Prop := ((Lit.int .i64 x.f0).wf = true) ∧ ((Lit.int .u64 x.f1).wf = true) ∧ (wf22 x.f2)
theorem op41 : Opens 41 k41 wf41 := Opens.iso (fun x : S41 => (x.f0, x.f1, x.f2)) (fun a => ⟨a.1, a.2.1, a.2.2⟩) (fun _ => rfl) (Opens.struct Try.underlying41 (by kernel_rfl) (OpensF.cons rfl (Opens.int Try.underlying29 (by kernel_rfl)) (OpensF.cons rfl (Opens.int Try.underlying39 (by kernel_rfl)) (OpensF.last rfl op22))))
def wf28 (l : List (S41)) : Prop := l.length ≤ maxLen ∧ ∀ a ∈ l, wf41 a
theorem op28 : Opens 28 (Kd.slice 41 k41) wf28 := Opens.slice Try.underlying28 (by kernel_rfl) op41
end Go.Proofs.Ytknlbfandkmeiaa.M
end
section
namespace Go.Proofs.Ytknlbfandkmeiaa.M
open Go.RowKit Go.Proofs.YtknlbfandkmeiaaW.PrintWords Go.Proofs.YtknlbfandkmeiaaW.PrintLast Go.Proofs.YtknlbfandkmeiaaW.PrintMore
attribute [local go_sem] max2_int min2_int max_two min_two max_three min_three max_four min_four   -- for this text's walks alone
def ModelTells_Pure : Prop := ∀ (x0 : List (S24)) (x1 : S36) (x2 : List (S41)), wf53 x0 → wf36 x1 → wf28 x2 → gazetteerlaw22_ModelTells.f x0 x1.f0 x1.f1 x1.f2 x1.f3 x2 = some true
end Go.Proofs.Ytknlbfandkmeiaa.M
end
