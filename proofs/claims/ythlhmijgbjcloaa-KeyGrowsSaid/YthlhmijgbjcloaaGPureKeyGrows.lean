/- What the row of this claim reaches. No condition. -/
import Derived.Laws.BytesArg
import Derived.WalkKit
import Derived.Test.YthlhmijgbjcloaaGPure09w
set_option linter.unusedVariables false
set_option linter.unusedSimpArgs false
namespace Go.Proofs.Ythlhmijgbjcloaa.A
open Go.RowKit Go.Proofs.YthlhmijgbjcloaaW.PrintWords Go.Proofs.YthlhmijgbjcloaaW.PrintLast Go.Proofs.YthlhmijgbjcloaaW.PrintMore
theorem KeyGrows_pure : KeyGrows_Pure:=by
 rintro ⟨a0,a1,a2,a3⟩ ⟨b0,b1,b2,b3⟩ ⟨c0,c1,c2,c3⟩ wa wb wc
 have ka:=inK_of wa
 have kb:=inK_of wb
 have kc:=inK_of wc
 simp only at ka kb kc
 refine ⟨40,?_⟩
 unfold gazetteerlaw09_KeyGrows.f
 rw [wakes_ok]
 obtain ⟨p,q,r,s,e1,e2⟩:=Grows_eq 36 ka kc
 obtain ⟨t,e3,e4⟩:=Less_eq 35 ka kb kc
 simp only [Option.bind_some,if_true,e1,e2,e3,e4,beq_self_eq_true,Bool.and_self]
end Go.Proofs.Ythlhmijgbjcloaa.A
