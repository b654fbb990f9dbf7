-- By pr.py, a program of this session's, over the kit's print; with contracts of the session's own. Lean checks it.
import Derived.Test.YtfggjefncnhikaaAx0
namespace Go.Proofs.Ytfggjefncnhikaa.A
open Go.RowKit Go.Proofs.YtfggjefncnhikaaW.PrintWords Go.Proofs.YtfggjefncnhikaaW.PrintLast Go.Proofs.YtfggjefncnhikaaW.PrintMore
attribute [local go_sem] max2_int min2_int max_two min_two max_three min_three max_four min_four   -- for this text's walks alone
set_option linter.unusedVariables false
set_option linter.unusedSimpArgs false

--@F opens
def wf44 (x : S44) : Prop := ((Lit.int .u64 x.f0).wf = true) ∧ ((Lit.int .u64 x.f1).wf = true)
theorem op44 : Opens 44 k44 wf44 := Opens.iso (fun x : S44 => (x.f0, x.f1)) (fun a => ⟨a.1, a.2⟩) (fun _ => rfl) (Opens.struct Try.underlying44 (by kernel_rfl) (OpensF.cons rfl (Opens.int Try.underlying22 (by kernel_rfl)) (OpensF.last rfl (Opens.int Try.underlying22 (by kernel_rfl)))))
def wf23 (l : List (S44)) : Prop := l.length ≤ maxLen ∧ ∀ a ∈ l, wf44 a
theorem op23 : Opens 23 (Kd.slice 44 k44) wf23 := Opens.slice Try.underlying23 (by kernel_rfl) op44
def wf25 (x : S25) : Prop := ((Lit.int .u64 x.f0).wf = true) ∧ (wf23 x.f1)
theorem op25 : Opens 25 k25 wf25 := Opens.iso (fun x : S25 => (x.f0, x.f1)) (fun a => ⟨a.1, a.2⟩) (fun _ => rfl) (Opens.struct Try.underlying25 (by kernel_rfl) (OpensF.cons rfl (Opens.int Try.underlying22 (by kernel_rfl)) (OpensF.last rfl op23)))
def wf27 (x : S27) : Prop := ((Lit.int .u64 x.f0).wf = true) ∧ (True) ∧ ((Lit.int .u64 x.f2).wf = true)
theorem op27 : Opens 27 k27 wf27 := Opens.iso (fun x : S27 => (x.f0, x.f1, x.f2)) (fun a => ⟨a.1, a.2.1, a.2.2⟩) (fun _ => rfl) (Opens.struct Try.underlying27 (by kernel_rfl) (OpensF.cons rfl (Opens.int Try.underlying22 (by kernel_rfl)) (OpensF.cons rfl (Opens.bool Try.underlying4 (by kernel_rfl)) (OpensF.last rfl (Opens.int Try.underlying22 (by kernel_rfl))))))
def wf30 (x : S30) : Prop := ((Lit.int .i64 x.f0).wf = true) ∧ ((Lit.int .i64 x.f1).wf = true) ∧ ((Lit.int .i64 x.f2).wf = true) ∧ ((Lit.int .i64 x.f3).wf = true)
theorem op30 : Opens 30 k30 wf30 := Opens.iso (fun x : S30 => (x.f0, x.f1, x.f2, x.f3)) (fun a => ⟨a.1, a.2.1, a.2.2.1, a.2.2.2⟩) (fun _ => rfl) (Opens.struct Try.underlying30 (by kernel_rfl) (OpensF.cons rfl (Opens.int Try.underlying2 (by kernel_rfl)) (OpensF.cons rfl (Opens.int Try.underlying2 (by kernel_rfl)) (OpensF.cons rfl (Opens.int Try.underlying2 (by kernel_rfl)) (OpensF.last rfl (Opens.int Try.underlying2 (by kernel_rfl)))))))
def wf32 (x : S32) : Prop := ((Lit.int .u32 x.f0).wf = true) ∧ ((Lit.int .u64 x.f1).wf = true) ∧ ((Lit.int .u64 x.f2).wf = true) ∧ (wf30 x.f3) ∧ ((Lit.int .i64 x.f4).wf = true)
theorem op32 : Opens 32 k32 wf32 := Opens.iso (fun x : S32 => (x.f0, x.f1, x.f2, x.f3, x.f4)) (fun a => ⟨a.1, a.2.1, a.2.2.1, a.2.2.2.1, a.2.2.2.2⟩) (fun _ => rfl) (Opens.struct Try.underlying32 (by kernel_rfl) (OpensF.cons rfl (Opens.int Try.underlying28 (by kernel_rfl)) (OpensF.cons rfl (Opens.int Try.underlying22 (by kernel_rfl)) (OpensF.cons rfl (Opens.int Try.underlying22 (by kernel_rfl)) (OpensF.cons rfl op30 (OpensF.last rfl (Opens.int Try.underlying2 (by kernel_rfl))))))))
def wf46 (l : List Int) : Prop := l.length ≤ maxLen ∧ ∀ a ∈ l, (Lit.int .u64 a).wf = true
theorem op46 : Opens 46 (Kd.slice 22 (Kd.int .u64)) wf46 := Opens.slice Try.underlying46 (by kernel_rfl) (Opens.int Try.underlying22 (by kernel_rfl))
end Go.Proofs.Ytfggjefncnhikaa.A
