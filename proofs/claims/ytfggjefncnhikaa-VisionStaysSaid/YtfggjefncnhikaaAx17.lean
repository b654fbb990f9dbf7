-- By pr.py, a program of this session's, over the kit's print; with contracts of the session's own. Lean checks it.
import Derived.Test.YtfggjefncnhikaaAx0
import Derived.Test.YtfggjefncnhikaaAx10
import Derived.Test.YtfggjefncnhikaaAx15
namespace Go.Proofs.Ytfggjefncnhikaa.A
open Go.RowKit Go.Proofs.YtfggjefncnhikaaW.PrintWords Go.Proofs.YtfggjefncnhikaaW.PrintLast Go.Proofs.YtfggjefncnhikaaW.PrintMore
attribute [local go_sem] max2_int min2_int max_two min_two max_three min_three max_four min_four   -- for this text's walks alone
set_option linter.unusedVariables false
set_option linter.unusedSimpArgs false

--@F pure
def VisionStays_Pure : Prop := ∀ (x0 : S25) (x1 : Int) (x2 : S32), wf25 x0 → (Lit.int .u64 x1).wf = true → wf32 x2 → ∃ k, gazetteerlaw17_VisionStays.f k x0.f0 x0.f1 x1 x2.f0 x2.f1 x2.f2 x2.f3.f0 x2.f3.f1 x2.f3.f2 x2.f3.f3 x2.f4 = some true
end Go.Proofs.Ytfggjefncnhikaa.A
