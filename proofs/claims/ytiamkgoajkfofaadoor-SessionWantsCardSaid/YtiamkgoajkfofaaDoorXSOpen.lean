/- What the row of this claim reaches. No condition. -/
import Derived.SizedLaws
import Derived.Test.YtiamkgoajkfofaaDoorXOpen
import Derived.Test.YtiamkgoajkfofaaDoorXLaid
import Derived.Test.YtiamkgoajkfofaaDoorXSLaw0
set_option linter.unusedVariables false
set_option linter.unusedSimpArgs false
namespace Go.Proofs.YtiamkgoajkfofaaDoor.S
open Go.ChangeShapes Go.WideShapes Go.ChangeAt Go.RowKit Go.Proofs.YtiamkgoajkfofaaDoorW.PrintWords
def wf25 (x : S25) : Prop := ((Lit.int .i64 x.f0).wf = true) ∧ ((Lit.int .i64 x.f1).wf = true) ∧ ((Lit.int .i64 x.f2).wf = true) ∧ ((Lit.int .i64 x.f3).wf = true)
theorem op25 : Opens 25 k25 wf25 := Opens.iso (fun x : S25 => (x.f0, x.f1, x.f2, x.f3)) (fun a => ⟨a.1, a.2.1, a.2.2.1, a.2.2.2⟩) (fun _ => rfl) (Opens.struct Tryd.underlying25 (by kernel_rfl) (OpensF.cons rfl (Opens.int Tryd.underlying3 (by kernel_rfl)) (OpensF.cons rfl (Opens.int Tryd.underlying3 (by kernel_rfl)) (OpensF.cons rfl (Opens.int Tryd.underlying3 (by kernel_rfl)) (OpensF.last rfl (Opens.int Tryd.underlying3 (by kernel_rfl)))))))
def wf27 (x : S27) : Prop := ((Lit.int .i64 x.f0).wf = true) ∧ (True) ∧ ((Lit.int .u32 x.f2).wf = true) ∧ (wf25 x.f3) ∧ ((Lit.int .i64 x.f4).wf = true)
theorem op27 : Opens 27 k27 wf27 := Opens.iso (fun x : S27 => (x.f0, x.f1, x.f2, x.f3, x.f4)) (fun a => ⟨a.1, a.2.1, a.2.2.1, a.2.2.2.1, a.2.2.2.2⟩) (fun _ => rfl) (Opens.struct Tryd.underlying27 (by kernel_rfl) (OpensF.cons rfl (Opens.int Tryd.underlying3 (by kernel_rfl)) (OpensF.cons rfl (Opens.bool Tryd.underlying4 (by kernel_rfl)) (OpensF.cons rfl (Opens.int Tryd.underlying23 (by kernel_rfl)) (OpensF.cons rfl op25 (OpensF.last rfl (Opens.int Tryd.underlying3 (by kernel_rfl))))))))
def wf63 (x : S63) : Prop := ((Lit.int .u32 x.f0).wf = true) ∧ ((Lit.int .u64 x.f1).wf = true)
theorem op63 : Opens 63 k63 wf63 := Opens.iso (fun x : S63 => (x.f0, x.f1)) (fun a => ⟨a.1, a.2⟩) (fun _ => rfl) (Opens.struct Tryd.underlying63 (by kernel_rfl) (OpensF.cons rfl (Opens.int Tryd.underlying23 (by kernel_rfl)) (OpensF.last rfl (Opens.int Tryd.underlying22 (by kernel_rfl)))))
def wf28 (l : List S63) : Prop := l.length ≤ maxLen ∧ ∀ a ∈ l, wf63 a
theorem op28 : Opens 28 (Kd.slice 63 k63) wf28 := Opens.slice Tryd.underlying28 (by kernel_rfl) op63
def wf29 (l : List Int) : Prop := l.length ≤ maxLen ∧ ∀ a ∈ l, (Lit.int .u32 a).wf = true
theorem op29 : Opens 29 (Kd.slice 23 (Kd.int .u32)) wf29 := Opens.slice Tryd.underlying29 (by kernel_rfl) (Opens.int Tryd.underlying23 (by kernel_rfl))
def wf31 (x : S31) : Prop := (wf25 x.f0) ∧ (wf28 x.f1) ∧ (wf29 x.f2)
theorem op31 : Opens 31 k31 wf31 := Opens.iso (fun x : S31 => (x.f0, x.f1, x.f2)) (fun a => ⟨a.1, a.2.1, a.2.2⟩) (fun _ => rfl) (Opens.struct Tryd.underlying31 (by kernel_rfl) (OpensF.cons rfl op25 (OpensF.cons rfl op28 (OpensF.last rfl op29))))
def wf33 (x : S33) : Prop := ((Lit.int .i64 x.f0).wf = true) ∧ ((Lit.int .u64 x.f1).wf = true) ∧ (True) ∧ ((Lit.int .u64 x.f3).wf = true) ∧ (wf27 x.f4) ∧ ((Lit.int .i64 x.f5).wf = true) ∧ (wf31 x.f6) ∧ (wf29 x.f7)
theorem op33 : Opens 33 k33 wf33 := Opens.iso (fun x : S33 => (x.f0, x.f1, x.f2, x.f3, x.f4, x.f5, x.f6, x.f7)) (fun a => ⟨a.1, a.2.1, a.2.2.1, a.2.2.2.1, a.2.2.2.2.1, a.2.2.2.2.2.1, a.2.2.2.2.2.2.1, a.2.2.2.2.2.2.2⟩) (fun _ => rfl) (Opens.struct Tryd.underlying33 (by kernel_rfl) (OpensF.cons rfl (Opens.int Tryd.underlying3 (by kernel_rfl)) (OpensF.cons rfl (Opens.int Tryd.underlying22 (by kernel_rfl)) (OpensF.cons rfl (Opens.bool Tryd.underlying4 (by kernel_rfl)) (OpensF.cons rfl (Opens.int Tryd.underlying22 (by kernel_rfl)) (OpensF.cons rfl op27 (OpensF.cons rfl (Opens.int Tryd.underlying3 (by kernel_rfl)) (OpensF.cons rfl op31 (OpensF.last rfl op29)))))))))
theorem u32_nonneg {a : Int} (h : (Lit.int .u32 a).wf = true) : 0 ≤ a := by
  have := bounds_u32 h
  omega
end Go.Proofs.YtiamkgoajkfofaaDoor.S
