/- What the row of this claim reaches. No condition. -/
import Derived.Test.YtiamkgoajkfofaaDoorXWMore
set_option linter.unusedVariables false
set_option linter.unusedSimpArgs false
namespace Go.Proofs.YtiamkgoajkfofaaDoor
open Go.Proofs.YtiamkgoajkfofaaDoorW.PrintWords Go.Proofs.YtiamkgoajkfofaaDoorW.PrintLast
abbrev Ak {p : Prop} (h : p) : Aside0 p := Aside0.mk h
abbrev bA := @below_alloc
abbrev bN := @pw_below_drewN
abbrev bD := @below_drew1
abbrev bS := @below_set
abbrev kN := @blk_drewN
abbrev kD := @blk_drew
abbrev kA := @blk_alloc
abbrev kC := @blk_cell
abbrev kB := @blk_below
theorem sA {α : Type} (l : List α) (i : Nat) (a : α) : l.toArray.setIfInBounds i a = (l.set i a).toArray := List.setIfInBounds_toArray l i a
theorem sZ {α : Type} {a : α} {as : List α} {b : α} : List.set (a :: as) 0 b = b :: as := rfl
theorem sS {α : Type} {a : α} {as : List α} {n : Nat} {b : α} : List.set (a :: as) (n + 1) b = a :: List.set as n b := rfl
abbrev tt : Bool := true
abbrev ff : Bool := false
end Go.Proofs.YtiamkgoajkfofaaDoor
