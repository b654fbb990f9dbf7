-- By pr.py, a program of this session's, over the kit's print; with contracts of the session's own. Lean checks it.
import Derived.Test.YtfggjefncnhikaaAx0
import Derived.Test.YtfggjefncnhikaaAx11
import Derived.Test.YtfggjefncnhikaaAx15
namespace Go.Proofs.Ytfggjefncnhikaa.A
open Go.RowKit Go.Proofs.YtfggjefncnhikaaW.PrintWords Go.Proofs.YtfggjefncnhikaaW.PrintLast Go.Proofs.YtfggjefncnhikaaW.PrintMore
attribute [local go_sem] max2_int min2_int max_two min_two max_three min_three max_four min_four   -- for this text's walks alone
set_option linter.unusedVariables false
set_option linter.unusedSimpArgs false

--@F pure
def VisionChain_Pure : Prop := ∀ (x0 : S25) (x1 : S27) (x2 : List Int), wf25 x0 → wf27 x1 → wf46 x2 → ∃ k, gazetteerlaw17_VisionChain.f k x0.f0 x0.f1 x1.f0 x1.f1 x1.f2 x2 = some true
end Go.Proofs.Ytfggjefncnhikaa.A
