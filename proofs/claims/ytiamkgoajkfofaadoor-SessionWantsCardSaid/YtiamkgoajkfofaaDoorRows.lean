/-
  NARROWER THAN 'FOR EVERY INPUT', by the rows' own cells (each row's printed sentence says how): SessionHolds: laid · SessionAsks: laid · SessionMoves: laid · SessionWants: laid · SessionEnds: laid.
  DERIVED. THE GIVEN ROWS OF THIS SEAT. 5 by the template 'for every input the law returns true; each argument reads behind the call as it read before'; 0 by the template 'total and deterministic' (their statements: YtiamkgoajkfofaaDoorTotals.lean).
  GIVEN WITH THE SEED: the statements are not yours to turn. If you find one false, say at which input.
  Laid BY PROGRAM, IN A SANDBOX (cutbox-rows.mjs): the forced cells as the released guide's own fill.sh prints them over the translation b5ec8b0aef6a96e3… (all of the seat's roots in one cut). By AI agents, Wed Nov 11 2026. No macro, syntax, notation, axiom, sorry.
-/
import Derived.Test.YtiamkgoajkfofaaDoorChecked
import GoSem.Claim
import GoSem.ClaimJoined
import GoSem.ClaimMapViews
import Derived.JoinedTies
import Derived.KernelRfl
namespace Go.Proofs.YtiamkgoajkfofaaDoor
/- THE CELL 'sum', in the pinned program and in every row, IS THE sha256 OF THE DUMP (.gsa) THAT YtiamkgoajkfofaaDoorProg.lean LOADS. Nothing in Lean hashes anything: it is a label: what it is worth is what the hold of that sum in a sandbox is worth. -/
noncomputable def Tryd.pinned : Pinned := { name := "ytiamkgoajkfofaadoor", sum := "b5ec8b0aef6a96e34851be9d9d6f552bd71ff66316b491ac3f8e5b70411841f7", checked := Tryd.checked }
namespace Rows
def none {H : Type} : Left H := { results := [], args := [] }

/- WHAT THE LISTED PACKAGE-LEVEL VARIABLES READ AS WHEN THE CALL BEGINS. Each datum BY PROGRAM (the guide's laid-datum.mjs) off the statement by which the dump's own 'gosem.cut.vars' lays the variable. In a bare row this is a premise. The card (YtiamkgoajkfofaaDoorCards.lean) ties it to the program's text. -/
def laid_gazetteer_session_parts {H : Type} : DataW H := .agg [.agg [.lit (.int .i64 0), .lit (.int .i64 0), .lit (.int .i64 0), .lit (.int .i64 0)], .agg [.lit (.int .i64 1), .lit (.int .i64 0), .lit (.int .i64 0), .lit (.int .i64 0)], .agg [.lit (.int .i64 2), .lit (.int .i64 3), .lit (.int .i64 0), .lit (.int .i64 0)], .agg [.lit (.int .i64 2), .lit (.int .i64 4), .lit (.int .i64 0), .lit (.int .i64 0)], .agg [.lit (.int .i64 5), .lit (.int .i64 6), .lit (.int .i64 2), .lit (.int .i64 7)], .agg [.lit (.int .i64 8), .lit (.int .i64 0), .lit (.int .i64 0), .lit (.int .i64 0)], .agg [.lit (.int .i64 9), .lit (.int .i64 0), .lit (.int .i64 0), .lit (.int .i64 0)]]

/-- 'gazetteerlaw21.SessionHolds': WHATEVER THE INPUT: true; the input reads as it did. -/
def sessionHoldsSpec : ChangeSpec := { name := "sessionHolds", fn := fun _ => fun
  | [d1, d2, d3] => { results := [.lit (.bool true)], args := [d1, d2, d3] }
  | _ => none }
def sessionHoldsRow : OpenClaim := { program := "ytiamkgoajkfofaadoor", sum := "b5ec8b0aef6a96e34851be9d9d6f552bd71ff66316b491ac3f8e5b70411841f7", func := "gazetteer/gazetteerlaw21.SessionHolds", spec := "sessionHolds", unfollowed := true, recurses := true, named := ["gazetteer/session.parts"], apart := false, laid := [("gazetteer/session.parts", laid_gazetteer_session_parts)] }
def SessionHoldsSaid : Prop := sessionHoldsRow.holds Tryd.pinned (OpenSpec.ofChange sessionHoldsSpec)

/-- ITS FALSE NEIGHBOUR: 'it returns false'. Refute it at one input. -/
def sessionHoldsWrong : ChangeSpec := { name := "sessionHolds", fn := fun _ => fun
  | [d1, d2, d3] => { results := [.lit (.bool false)], args := [d1, d2, d3] }
  | _ => none }
def SessionHoldsWrongFalsely : Prop := sessionHoldsRow.holds Tryd.pinned (OpenSpec.ofChange sessionHoldsWrong)

/-- 'gazetteerlaw21.SessionAsks': WHATEVER THE INPUT: true; the input reads as it did. -/
def sessionAsksSpec : ChangeSpec := { name := "sessionAsks", fn := fun _ => fun
  | [d1, d2, d3] => { results := [.lit (.bool true)], args := [d1, d2, d3] }
  | _ => none }
def sessionAsksRow : OpenClaim := { program := "ytiamkgoajkfofaadoor", sum := "b5ec8b0aef6a96e34851be9d9d6f552bd71ff66316b491ac3f8e5b70411841f7", func := "gazetteer/gazetteerlaw21.SessionAsks", spec := "sessionAsks", unfollowed := true, recurses := true, named := ["gazetteer/session.parts"], apart := false, laid := [("gazetteer/session.parts", laid_gazetteer_session_parts)] }
def SessionAsksSaid : Prop := sessionAsksRow.holds Tryd.pinned (OpenSpec.ofChange sessionAsksSpec)

/-- ITS FALSE NEIGHBOUR: 'it returns false'. Refute it at one input. -/
def sessionAsksWrong : ChangeSpec := { name := "sessionAsks", fn := fun _ => fun
  | [d1, d2, d3] => { results := [.lit (.bool false)], args := [d1, d2, d3] }
  | _ => none }
def SessionAsksWrongFalsely : Prop := sessionAsksRow.holds Tryd.pinned (OpenSpec.ofChange sessionAsksWrong)

/-- 'gazetteerlaw21.SessionMoves': WHATEVER THE INPUT: true; the input reads as it did. -/
def sessionMovesSpec : ChangeSpec := { name := "sessionMoves", fn := fun _ => fun
  | [d1, d2] => { results := [.lit (.bool true)], args := [d1, d2] }
  | _ => none }
def sessionMovesRow : OpenClaim := { program := "ytiamkgoajkfofaadoor", sum := "b5ec8b0aef6a96e34851be9d9d6f552bd71ff66316b491ac3f8e5b70411841f7", func := "gazetteer/gazetteerlaw21.SessionMoves", spec := "sessionMoves", unfollowed := true, recurses := true, named := ["gazetteer/session.parts"], apart := false, laid := [("gazetteer/session.parts", laid_gazetteer_session_parts)] }
def SessionMovesSaid : Prop := sessionMovesRow.holds Tryd.pinned (OpenSpec.ofChange sessionMovesSpec)

/-- ITS FALSE NEIGHBOUR: 'it returns false'. Refute it at one input. -/
def sessionMovesWrong : ChangeSpec := { name := "sessionMoves", fn := fun _ => fun
  | [d1, d2] => { results := [.lit (.bool false)], args := [d1, d2] }
  | _ => none }
def SessionMovesWrongFalsely : Prop := sessionMovesRow.holds Tryd.pinned (OpenSpec.ofChange sessionMovesWrong)

/-- 'gazetteerlaw21.SessionWants': WHATEVER THE INPUT: true; the input reads as it did. -/
def sessionWantsSpec : ChangeSpec := { name := "sessionWants", fn := fun _ => fun
  | [d1, d2] => { results := [.lit (.bool true)], args := [d1, d2] }
  | _ => none }
def sessionWantsRow : OpenClaim := { program := "ytiamkgoajkfofaadoor", sum := "b5ec8b0aef6a96e34851be9d9d6f552bd71ff66316b491ac3f8e5b70411841f7", func := "gazetteer/gazetteerlaw21.SessionWants", spec := "sessionWants", unfollowed := true, recurses := true, named := ["gazetteer/session.parts"], apart := false, laid := [("gazetteer/session.parts", laid_gazetteer_session_parts)] }
def SessionWantsSaid : Prop := sessionWantsRow.holds Tryd.pinned (OpenSpec.ofChange sessionWantsSpec)

/-- ITS FALSE NEIGHBOUR: 'it returns false'. Refute it at one input. -/
def sessionWantsWrong : ChangeSpec := { name := "sessionWants", fn := fun _ => fun
  | [d1, d2] => { results := [.lit (.bool false)], args := [d1, d2] }
  | _ => none }
def SessionWantsWrongFalsely : Prop := sessionWantsRow.holds Tryd.pinned (OpenSpec.ofChange sessionWantsWrong)

/-- 'gazetteerlaw21.SessionEnds': WHATEVER THE INPUT: true; the input reads as it did. -/
def sessionEndsSpec : ChangeSpec := { name := "sessionEnds", fn := fun _ => fun
  | [d1, d2, d3] => { results := [.lit (.bool true)], args := [d1, d2, d3] }
  | _ => none }
def sessionEndsRow : OpenClaim := { program := "ytiamkgoajkfofaadoor", sum := "b5ec8b0aef6a96e34851be9d9d6f552bd71ff66316b491ac3f8e5b70411841f7", func := "gazetteer/gazetteerlaw21.SessionEnds", spec := "sessionEnds", unfollowed := true, recurses := true, named := ["gazetteer/session.parts"], apart := false, laid := [("gazetteer/session.parts", laid_gazetteer_session_parts)] }
def SessionEndsSaid : Prop := sessionEndsRow.holds Tryd.pinned (OpenSpec.ofChange sessionEndsSpec)

/-- ITS FALSE NEIGHBOUR: 'it returns false'. Refute it at one input. -/
def sessionEndsWrong : ChangeSpec := { name := "sessionEnds", fn := fun _ => fun
  | [d1, d2, d3] => { results := [.lit (.bool false)], args := [d1, d2, d3] }
  | _ => none }
def SessionEndsWrongFalsely : Prop := sessionEndsRow.holds Tryd.pinned (OpenSpec.ofChange sessionEndsWrong)

/- THE SECOND FORM. 'bulk': how many values and letters a reading holds, each counted each time it is reached (what is shared counts as often as it is met; a slice's spare places count too). A statement '..UptoSaid' is the law's where the arguments, and the package variables that the reading takes, are together of bulk at most 1048576: NARROWER than '..Said'. Prove '..Said' where nothing that the law and all that it calls make is longer than what came in: it says more and counts as full. Else prove '..UptoSaid'. A law counts once. -/
mutual
def uptoBulk {H : Type} : DataW H → Nat
  | .lit (.string bytes) => bytes.length + 1
  | .lit _ => 1
  | .nil => 1
  | .ptr d => uptoBulk d + 1
  | .slice elems spare => uptoBulkAll elems + uptoBulkAll spare + 1
  | .agg parts => uptoBulkAll parts + 1
  | .iface _ d => uptoBulk d + 1
  | .map entries => uptoBulkEntries entries + 1
  | .held _ => 1
def uptoBulkAll {H : Type} : List (DataW H) → Nat
  | [] => 0
  | d :: r => uptoBulk d + uptoBulkAll r
def uptoBulkEntries {H : Type} : List (Lit × DataW H) → Nat
  | [] => 0
  | x :: r => uptoBulkEntry x + uptoBulkEntries r
def uptoBulkEntry {H : Type} : Lit × DataW H → Nat
  | (.string bytes, d) => bytes.length + uptoBulk d + 1
  | (_, d) => uptoBulk d + 1
 end
def uptoSmall : (H : Type) → List (DataW H) → Bool := fun _ ds => decide (uptoBulkAll ds ≤ 1048576)
def OpenSpec.upto (s : _root_.Go.ChangeSpec) : _root_.Go.OpenSpec := { _root_.Go.OpenSpec.ofChange s with cond := some uptoSmall }

/-- 'gazetteerlaw21.SessionHolds', WHERE WHAT IT READS IS OF BULK AT MOST 1048576: true; the input reads as it did. -/
def sessionHoldsUptoRow : OpenClaim := { program := "ytiamkgoajkfofaadoor", sum := "b5ec8b0aef6a96e34851be9d9d6f552bd71ff66316b491ac3f8e5b70411841f7", func := "gazetteer/gazetteerlaw21.SessionHolds", spec := "sessionHolds", unfollowed := true, recurses := true, named := ["gazetteer/session.parts"], apart := false, laid := [("gazetteer/session.parts", laid_gazetteer_session_parts)], narrowed := true }
def SessionHoldsUptoSaid : Prop := sessionHoldsUptoRow.holds Tryd.pinned (OpenSpec.upto sessionHoldsSpec)

/-- 'gazetteerlaw21.SessionAsks', WHERE WHAT IT READS IS OF BULK AT MOST 1048576: true; the input reads as it did. -/
def sessionAsksUptoRow : OpenClaim := { program := "ytiamkgoajkfofaadoor", sum := "b5ec8b0aef6a96e34851be9d9d6f552bd71ff66316b491ac3f8e5b70411841f7", func := "gazetteer/gazetteerlaw21.SessionAsks", spec := "sessionAsks", unfollowed := true, recurses := true, named := ["gazetteer/session.parts"], apart := false, laid := [("gazetteer/session.parts", laid_gazetteer_session_parts)], narrowed := true }
def SessionAsksUptoSaid : Prop := sessionAsksUptoRow.holds Tryd.pinned (OpenSpec.upto sessionAsksSpec)

/-- 'gazetteerlaw21.SessionMoves', WHERE WHAT IT READS IS OF BULK AT MOST 1048576: true; the input reads as it did. -/
def sessionMovesUptoRow : OpenClaim := { program := "ytiamkgoajkfofaadoor", sum := "b5ec8b0aef6a96e34851be9d9d6f552bd71ff66316b491ac3f8e5b70411841f7", func := "gazetteer/gazetteerlaw21.SessionMoves", spec := "sessionMoves", unfollowed := true, recurses := true, named := ["gazetteer/session.parts"], apart := false, laid := [("gazetteer/session.parts", laid_gazetteer_session_parts)], narrowed := true }
def SessionMovesUptoSaid : Prop := sessionMovesUptoRow.holds Tryd.pinned (OpenSpec.upto sessionMovesSpec)

/-- 'gazetteerlaw21.SessionWants', WHERE WHAT IT READS IS OF BULK AT MOST 1048576: true; the input reads as it did. -/
def sessionWantsUptoRow : OpenClaim := { program := "ytiamkgoajkfofaadoor", sum := "b5ec8b0aef6a96e34851be9d9d6f552bd71ff66316b491ac3f8e5b70411841f7", func := "gazetteer/gazetteerlaw21.SessionWants", spec := "sessionWants", unfollowed := true, recurses := true, named := ["gazetteer/session.parts"], apart := false, laid := [("gazetteer/session.parts", laid_gazetteer_session_parts)], narrowed := true }
def SessionWantsUptoSaid : Prop := sessionWantsUptoRow.holds Tryd.pinned (OpenSpec.upto sessionWantsSpec)

/-- 'gazetteerlaw21.SessionEnds', WHERE WHAT IT READS IS OF BULK AT MOST 1048576: true; the input reads as it did. -/
def sessionEndsUptoRow : OpenClaim := { program := "ytiamkgoajkfofaadoor", sum := "b5ec8b0aef6a96e34851be9d9d6f552bd71ff66316b491ac3f8e5b70411841f7", func := "gazetteer/gazetteerlaw21.SessionEnds", spec := "sessionEnds", unfollowed := true, recurses := true, named := ["gazetteer/session.parts"], apart := false, laid := [("gazetteer/session.parts", laid_gazetteer_session_parts)], narrowed := true }
def SessionEndsUptoSaid : Prop := sessionEndsUptoRow.holds Tryd.pinned (OpenSpec.upto sessionEndsSpec)

end Rows
end Go.Proofs.YtiamkgoajkfofaaDoor
