/-
  DERIVED. GIVEN WITH THE SEED: THE CARDS: each row of YtiamkgoajkfofaaDoorRows.lean that lists a variable, with what it lists TIED to the program's text (the seventh form; the later family's looks); each row that meets fmt, with fmt's text TOLD by the authors' own Lean function (tested against real Go, not proved from fmt's source: count such statements apart). THE CARD IS WHAT COUNTS. Prove the row's statement (the work); the ties are given (YtiamkgoajkfofaaDoorTie.lean); close each card by the builder's one call (the guide's Derived/Test/ToyasCard.lean, 'card_holds'). Laid BY PROGRAM, IN A SANDBOX (cutbox-door.mjs). By AI agents, Wed Nov 11 2026. No macro, syntax, notation, axiom, sorry.
-/
import Derived.Test.YtiamkgoajkfofaaDoorRows
import GoSem.ClaimSeven
namespace Go.Proofs.YtiamkgoajkfofaaDoor
namespace Rows

/-- THE TIED CARD OF 'gazetteerlaw21.SessionHolds'. -/
def sessionHoldsCard : Claim7 := { stood := { row := sessionHoldsRow, standIns := [], harness := (true, "2cade49ed8aae92ded5b92aa8b14d4e583aae963724ae83d5bbfe385153e8096"), looks := false }, kinds := [], alts := [], laidByText := true, laidKinds := [.data], laidTests := true, laidLooks := .later }
def SessionHoldsCardSaid : Prop := Claim7.holds Tryd.pinned (.plain (OpenSpec.ofChange sessionHoldsSpec)) sessionHoldsCard

/-- THE TIED CARD OF 'gazetteerlaw21.SessionAsks'. -/
def sessionAsksCard : Claim7 := { stood := { row := sessionAsksRow, standIns := [], harness := (true, "2cade49ed8aae92ded5b92aa8b14d4e583aae963724ae83d5bbfe385153e8096"), looks := false }, kinds := [], alts := [], laidByText := true, laidKinds := [.data], laidTests := true, laidLooks := .later }
def SessionAsksCardSaid : Prop := Claim7.holds Tryd.pinned (.plain (OpenSpec.ofChange sessionAsksSpec)) sessionAsksCard

/-- THE TIED CARD OF 'gazetteerlaw21.SessionMoves'. -/
def sessionMovesCard : Claim7 := { stood := { row := sessionMovesRow, standIns := [], harness := (true, "2cade49ed8aae92ded5b92aa8b14d4e583aae963724ae83d5bbfe385153e8096"), looks := false }, kinds := [], alts := [], laidByText := true, laidKinds := [.data], laidTests := true, laidLooks := .later }
def SessionMovesCardSaid : Prop := Claim7.holds Tryd.pinned (.plain (OpenSpec.ofChange sessionMovesSpec)) sessionMovesCard

/-- THE TIED CARD OF 'gazetteerlaw21.SessionWants'. -/
def sessionWantsCard : Claim7 := { stood := { row := sessionWantsRow, standIns := [], harness := (true, "2cade49ed8aae92ded5b92aa8b14d4e583aae963724ae83d5bbfe385153e8096"), looks := false }, kinds := [], alts := [], laidByText := true, laidKinds := [.data], laidTests := true, laidLooks := .later }
def SessionWantsCardSaid : Prop := Claim7.holds Tryd.pinned (.plain (OpenSpec.ofChange sessionWantsSpec)) sessionWantsCard

/-- THE TIED CARD OF 'gazetteerlaw21.SessionEnds'. -/
def sessionEndsCard : Claim7 := { stood := { row := sessionEndsRow, standIns := [], harness := (true, "2cade49ed8aae92ded5b92aa8b14d4e583aae963724ae83d5bbfe385153e8096"), looks := false }, kinds := [], alts := [], laidByText := true, laidKinds := [.data], laidTests := true, laidLooks := .later }
def SessionEndsCardSaid : Prop := Claim7.holds Tryd.pinned (.plain (OpenSpec.ofChange sessionEndsSpec)) sessionEndsCard

/-- THE SECOND FORM's CARD OF 'gazetteerlaw21.SessionHolds'. -/
def sessionHoldsUptoCard : Claim7 := { stood := { row := sessionHoldsUptoRow, standIns := [], harness := (true, "2cade49ed8aae92ded5b92aa8b14d4e583aae963724ae83d5bbfe385153e8096"), looks := false }, kinds := [], alts := [], laidByText := true, laidKinds := [.data], laidTests := true, laidLooks := .later }
def SessionHoldsUptoCardSaid : Prop := Claim7.holds Tryd.pinned (.plain (OpenSpec.upto sessionHoldsSpec)) sessionHoldsUptoCard

/-- THE SECOND FORM's CARD OF 'gazetteerlaw21.SessionAsks'. -/
def sessionAsksUptoCard : Claim7 := { stood := { row := sessionAsksUptoRow, standIns := [], harness := (true, "2cade49ed8aae92ded5b92aa8b14d4e583aae963724ae83d5bbfe385153e8096"), looks := false }, kinds := [], alts := [], laidByText := true, laidKinds := [.data], laidTests := true, laidLooks := .later }
def SessionAsksUptoCardSaid : Prop := Claim7.holds Tryd.pinned (.plain (OpenSpec.upto sessionAsksSpec)) sessionAsksUptoCard

/-- THE SECOND FORM's CARD OF 'gazetteerlaw21.SessionMoves'. -/
def sessionMovesUptoCard : Claim7 := { stood := { row := sessionMovesUptoRow, standIns := [], harness := (true, "2cade49ed8aae92ded5b92aa8b14d4e583aae963724ae83d5bbfe385153e8096"), looks := false }, kinds := [], alts := [], laidByText := true, laidKinds := [.data], laidTests := true, laidLooks := .later }
def SessionMovesUptoCardSaid : Prop := Claim7.holds Tryd.pinned (.plain (OpenSpec.upto sessionMovesSpec)) sessionMovesUptoCard

/-- THE SECOND FORM's CARD OF 'gazetteerlaw21.SessionWants'. -/
def sessionWantsUptoCard : Claim7 := { stood := { row := sessionWantsUptoRow, standIns := [], harness := (true, "2cade49ed8aae92ded5b92aa8b14d4e583aae963724ae83d5bbfe385153e8096"), looks := false }, kinds := [], alts := [], laidByText := true, laidKinds := [.data], laidTests := true, laidLooks := .later }
def SessionWantsUptoCardSaid : Prop := Claim7.holds Tryd.pinned (.plain (OpenSpec.upto sessionWantsSpec)) sessionWantsUptoCard

/-- THE SECOND FORM's CARD OF 'gazetteerlaw21.SessionEnds'. -/
def sessionEndsUptoCard : Claim7 := { stood := { row := sessionEndsUptoRow, standIns := [], harness := (true, "2cade49ed8aae92ded5b92aa8b14d4e583aae963724ae83d5bbfe385153e8096"), looks := false }, kinds := [], alts := [], laidByText := true, laidKinds := [.data], laidTests := true, laidLooks := .later }
def SessionEndsUptoCardSaid : Prop := Claim7.holds Tryd.pinned (.plain (OpenSpec.upto sessionEndsSpec)) sessionEndsUptoCard
end Rows
end Go.Proofs.YtiamkgoajkfofaaDoor
