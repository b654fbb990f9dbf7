/- What the row of this claim reaches. No condition. -/
import Derived.Test.YtfggjefncnhikaaZVCounts
set_option linter.unusedVariables false
set_option linter.unusedSimpArgs false
namespace Go.Proofs.Ytfggjefncnhikaa
open Go.RowKit
def boxF (x0 x1 y0 y1 : Int) : Bool := decide (x0 ≤ x1) && decide (y0 ≤ y1)
def tupF (row xmin xmax x0 x1 y0 y1 : Int) : Bool := decide (1 ≤ row) && decide (1 ≤ xmin) && decide (xmin ≤ 4294967295) && decide (xmax ≤ 4294967295) && boxF x0 x1 y0 y1
end Go.Proofs.Ytfggjefncnhikaa
