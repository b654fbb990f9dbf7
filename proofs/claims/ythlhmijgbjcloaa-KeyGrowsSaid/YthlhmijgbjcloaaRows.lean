/-
  No cell of these rows narrows 'for every input' (looked for: loops, veiled, ifaces, maps, wideKeys, modest, calm, conditions, laid).
  DERIVED. THE GIVEN ROWS OF THIS SEAT. 12 by the template 'for every input the law returns true; each argument reads behind the call as it read before'; 0 by the template 'total and deterministic' (their statements: YthlhmijgbjcloaaTotals.lean).
  GIVEN WITH THE SEED: the statements are not yours to turn. If you find one false, say at which input.
  Laid BY PROGRAM, IN A SANDBOX (cutbox-rows.mjs): the forced cells as the released guide's own fill.sh prints them over the translation c20d6bbe3d3de125… (all of the seat's roots in one cut). By AI agents, Wed Nov 11 2026. No macro, syntax, notation, axiom, sorry.
-/
import Derived.Test.YthlhmijgbjcloaaChecked
import GoSem.Claim
import GoSem.ClaimJoined
import GoSem.ClaimMapViews
import Derived.JoinedTies
import Derived.KernelRfl
namespace Go.Proofs.Ythlhmijgbjcloaa
/- THE CELL 'sum', in the pinned program and in every row, IS THE sha256 OF THE DUMP (.gsa) THAT YthlhmijgbjcloaaProg.lean LOADS. Nothing in Lean hashes anything: it is a label: what it is worth is what the hold of that sum in a sandbox is worth. -/
noncomputable def Try.pinned : Pinned := { name := "ythlhmijgbjcloaa", sum := "c20d6bbe3d3de1251147cf5d65aee777e3a191d796777f62aadc91ed05987b62", checked := Try.checked }
namespace Rows
def none {H : Type} : Left H := { results := [], args := [] }

/-- 'gazetteerlaw07.WideMul': WHATEVER THE INPUT: true; the input reads as it did. -/
def wideMulSpec : ChangeSpec := { name := "wideMul", fn := fun _ => fun
  | [d1, d2] => { results := [.lit (.bool true)], args := [d1, d2] }
  | _ => none }
def wideMulRow : OpenClaim := { program := "ythlhmijgbjcloaa", sum := "c20d6bbe3d3de1251147cf5d65aee777e3a191d796777f62aadc91ed05987b62", func := "gazetteer/gazetteerlaw07.WideMul", spec := "wideMul", apart := false }
def WideMulSaid : Prop := wideMulRow.holds Try.pinned (OpenSpec.ofChange wideMulSpec)

/-- ITS FALSE NEIGHBOUR: 'it returns false'. Refute it at one input. -/
def wideMulWrong : ChangeSpec := { name := "wideMul", fn := fun _ => fun
  | [d1, d2] => { results := [.lit (.bool false)], args := [d1, d2] }
  | _ => none }
def WideMulWrongFalsely : Prop := wideMulRow.holds Try.pinned (OpenSpec.ofChange wideMulWrong)

/-- 'gazetteerlaw07.WideTexts': WHATEVER THE INPUT: true; the input reads as it did. -/
def wideTextsSpec : ChangeSpec := { name := "wideTexts", fn := fun _ => fun
  | [d] => { results := [.lit (.bool true)], args := [d] }
  | _ => none }
def wideTextsRow : OpenClaim := { program := "ythlhmijgbjcloaa", sum := "c20d6bbe3d3de1251147cf5d65aee777e3a191d796777f62aadc91ed05987b62", func := "gazetteer/gazetteerlaw07.WideTexts", spec := "wideTexts", apart := false }
def WideTextsSaid : Prop := wideTextsRow.holds Try.pinned (OpenSpec.ofChange wideTextsSpec)

/-- ITS FALSE NEIGHBOUR: 'it returns false'. Refute it at one input. -/
def wideTextsWrong : ChangeSpec := { name := "wideTexts", fn := fun _ => fun
  | [d] => { results := [.lit (.bool false)], args := [d] }
  | _ => none }
def WideTextsWrongFalsely : Prop := wideTextsRow.holds Try.pinned (OpenSpec.ofChange wideTextsWrong)

/-- 'gazetteerlaw07.WideOrder': WHATEVER THE INPUT: true; the input reads as it did. -/
def wideOrderSpec : ChangeSpec := { name := "wideOrder", fn := fun _ => fun
  | [d1, d2, d3] => { results := [.lit (.bool true)], args := [d1, d2, d3] }
  | _ => none }
def wideOrderRow : OpenClaim := { program := "ythlhmijgbjcloaa", sum := "c20d6bbe3d3de1251147cf5d65aee777e3a191d796777f62aadc91ed05987b62", func := "gazetteer/gazetteerlaw07.WideOrder", spec := "wideOrder", apart := false }
def WideOrderSaid : Prop := wideOrderRow.holds Try.pinned (OpenSpec.ofChange wideOrderSpec)

/-- ITS FALSE NEIGHBOUR: 'it returns false'. Refute it at one input. -/
def wideOrderWrong : ChangeSpec := { name := "wideOrder", fn := fun _ => fun
  | [d1, d2, d3] => { results := [.lit (.bool false)], args := [d1, d2, d3] }
  | _ => none }
def WideOrderWrongFalsely : Prop := wideOrderRow.holds Try.pinned (OpenSpec.ofChange wideOrderWrong)

/-- 'gazetteerlaw07.WideBoxes': WHATEVER THE INPUT: true; the input reads as it did. -/
def wideBoxesSpec : ChangeSpec := { name := "wideBoxes", fn := fun _ => fun
  | [d] => { results := [.lit (.bool true)], args := [d] }
  | _ => none }
def wideBoxesRow : OpenClaim := { program := "ythlhmijgbjcloaa", sum := "c20d6bbe3d3de1251147cf5d65aee777e3a191d796777f62aadc91ed05987b62", func := "gazetteer/gazetteerlaw07.WideBoxes", spec := "wideBoxes", apart := false }
def WideBoxesSaid : Prop := wideBoxesRow.holds Try.pinned (OpenSpec.ofChange wideBoxesSpec)

/-- ITS FALSE NEIGHBOUR: 'it returns false'. Refute it at one input. -/
def wideBoxesWrong : ChangeSpec := { name := "wideBoxes", fn := fun _ => fun
  | [d] => { results := [.lit (.bool false)], args := [d] }
  | _ => none }
def WideBoxesWrongFalsely : Prop := wideBoxesRow.holds Try.pinned (OpenSpec.ofChange wideBoxesWrong)

/-- 'gazetteerlaw07.WideSums': WHATEVER THE INPUT: true; the input reads as it did. -/
def wideSumsSpec : ChangeSpec := { name := "wideSums", fn := fun _ => fun
  | [d1, d2] => { results := [.lit (.bool true)], args := [d1, d2] }
  | _ => none }
def wideSumsRow : OpenClaim := { program := "ythlhmijgbjcloaa", sum := "c20d6bbe3d3de1251147cf5d65aee777e3a191d796777f62aadc91ed05987b62", func := "gazetteer/gazetteerlaw07.WideSums", spec := "wideSums", apart := false }
def WideSumsSaid : Prop := wideSumsRow.holds Try.pinned (OpenSpec.ofChange wideSumsSpec)

/-- ITS FALSE NEIGHBOUR: 'it returns false'. Refute it at one input. -/
def wideSumsWrong : ChangeSpec := { name := "wideSums", fn := fun _ => fun
  | [d1, d2] => { results := [.lit (.bool false)], args := [d1, d2] }
  | _ => none }
def WideSumsWrongFalsely : Prop := wideSumsRow.holds Try.pinned (OpenSpec.ofChange wideSumsWrong)

/-- 'gazetteerlaw07.WideTurns': WHATEVER THE INPUT: true; the input reads as it did. -/
def wideTurnsSpec : ChangeSpec := { name := "wideTurns", fn := fun _ => fun
  | [d1, d2] => { results := [.lit (.bool true)], args := [d1, d2] }
  | _ => none }
def wideTurnsRow : OpenClaim := { program := "ythlhmijgbjcloaa", sum := "c20d6bbe3d3de1251147cf5d65aee777e3a191d796777f62aadc91ed05987b62", func := "gazetteer/gazetteerlaw07.WideTurns", spec := "wideTurns", apart := false }
def WideTurnsSaid : Prop := wideTurnsRow.holds Try.pinned (OpenSpec.ofChange wideTurnsSpec)

/-- ITS FALSE NEIGHBOUR: 'it returns false'. Refute it at one input. -/
def wideTurnsWrong : ChangeSpec := { name := "wideTurns", fn := fun _ => fun
  | [d1, d2] => { results := [.lit (.bool false)], args := [d1, d2] }
  | _ => none }
def WideTurnsWrongFalsely : Prop := wideTurnsRow.holds Try.pinned (OpenSpec.ofChange wideTurnsWrong)

/-- 'gazetteerlaw07.WideGrows': WHATEVER THE INPUT: true; the input reads as it did. -/
def wideGrowsSpec : ChangeSpec := { name := "wideGrows", fn := fun _ => fun
  | [d1, d2, d3] => { results := [.lit (.bool true)], args := [d1, d2, d3] }
  | _ => none }
def wideGrowsRow : OpenClaim := { program := "ythlhmijgbjcloaa", sum := "c20d6bbe3d3de1251147cf5d65aee777e3a191d796777f62aadc91ed05987b62", func := "gazetteer/gazetteerlaw07.WideGrows", spec := "wideGrows", apart := false }
def WideGrowsSaid : Prop := wideGrowsRow.holds Try.pinned (OpenSpec.ofChange wideGrowsSpec)

/-- ITS FALSE NEIGHBOUR: 'it returns false'. Refute it at one input. -/
def wideGrowsWrong : ChangeSpec := { name := "wideGrows", fn := fun _ => fun
  | [d1, d2, d3] => { results := [.lit (.bool false)], args := [d1, d2, d3] }
  | _ => none }
def WideGrowsWrongFalsely : Prop := wideGrowsRow.holds Try.pinned (OpenSpec.ofChange wideGrowsWrong)

/-- 'gazetteerlaw09.KeyFair': WHATEVER THE INPUT: true; the input reads as it did. -/
def keyFairSpec : ChangeSpec := { name := "keyFair", fn := fun _ => fun
  | [d] => { results := [.lit (.bool true)], args := [d] }
  | _ => none }
def keyFairRow : OpenClaim := { program := "ythlhmijgbjcloaa", sum := "c20d6bbe3d3de1251147cf5d65aee777e3a191d796777f62aadc91ed05987b62", func := "gazetteer/gazetteerlaw09.KeyFair", spec := "keyFair", unfollowed := true, recurses := true, apart := false }
def KeyFairSaid : Prop := keyFairRow.holds Try.pinned (OpenSpec.ofChange keyFairSpec)

/-- ITS FALSE NEIGHBOUR: 'it returns false'. Refute it at one input. -/
def keyFairWrong : ChangeSpec := { name := "keyFair", fn := fun _ => fun
  | [d] => { results := [.lit (.bool false)], args := [d] }
  | _ => none }
def KeyFairWrongFalsely : Prop := keyFairRow.holds Try.pinned (OpenSpec.ofChange keyFairWrong)

/-- 'gazetteerlaw09.KeyMeets': WHATEVER THE INPUT: true; the input reads as it did. -/
def keyMeetsSpec : ChangeSpec := { name := "keyMeets", fn := fun _ => fun
  | [d1, d2, d3] => { results := [.lit (.bool true)], args := [d1, d2, d3] }
  | _ => none }
def keyMeetsRow : OpenClaim := { program := "ythlhmijgbjcloaa", sum := "c20d6bbe3d3de1251147cf5d65aee777e3a191d796777f62aadc91ed05987b62", func := "gazetteer/gazetteerlaw09.KeyMeets", spec := "keyMeets", unfollowed := true, recurses := true, apart := false }
def KeyMeetsSaid : Prop := keyMeetsRow.holds Try.pinned (OpenSpec.ofChange keyMeetsSpec)

/-- ITS FALSE NEIGHBOUR: 'it returns false'. Refute it at one input. -/
def keyMeetsWrong : ChangeSpec := { name := "keyMeets", fn := fun _ => fun
  | [d1, d2, d3] => { results := [.lit (.bool false)], args := [d1, d2, d3] }
  | _ => none }
def KeyMeetsWrongFalsely : Prop := keyMeetsRow.holds Try.pinned (OpenSpec.ofChange keyMeetsWrong)

/-- 'gazetteerlaw09.KeyGrows': WHATEVER THE INPUT: true; the input reads as it did. -/
def keyGrowsSpec : ChangeSpec := { name := "keyGrows", fn := fun _ => fun
  | [d1, d2, d3] => { results := [.lit (.bool true)], args := [d1, d2, d3] }
  | _ => none }
def keyGrowsRow : OpenClaim := { program := "ythlhmijgbjcloaa", sum := "c20d6bbe3d3de1251147cf5d65aee777e3a191d796777f62aadc91ed05987b62", func := "gazetteer/gazetteerlaw09.KeyGrows", spec := "keyGrows", unfollowed := true, recurses := true, apart := false }
def KeyGrowsSaid : Prop := keyGrowsRow.holds Try.pinned (OpenSpec.ofChange keyGrowsSpec)

/-- ITS FALSE NEIGHBOUR: 'it returns false'. Refute it at one input. -/
def keyGrowsWrong : ChangeSpec := { name := "keyGrows", fn := fun _ => fun
  | [d1, d2, d3] => { results := [.lit (.bool false)], args := [d1, d2, d3] }
  | _ => none }
def KeyGrowsWrongFalsely : Prop := keyGrowsRow.holds Try.pinned (OpenSpec.ofChange keyGrowsWrong)

/-- 'gazetteerlaw09.KeyUnion': WHATEVER THE INPUT: true; the input reads as it did. -/
def keyUnionSpec : ChangeSpec := { name := "keyUnion", fn := fun _ => fun
  | [d1, d2, d3] => { results := [.lit (.bool true)], args := [d1, d2, d3] }
  | _ => none }
def keyUnionRow : OpenClaim := { program := "ythlhmijgbjcloaa", sum := "c20d6bbe3d3de1251147cf5d65aee777e3a191d796777f62aadc91ed05987b62", func := "gazetteer/gazetteerlaw09.KeyUnion", spec := "keyUnion", unfollowed := true, recurses := true, apart := false }
def KeyUnionSaid : Prop := keyUnionRow.holds Try.pinned (OpenSpec.ofChange keyUnionSpec)

/-- ITS FALSE NEIGHBOUR: 'it returns false'. Refute it at one input. -/
def keyUnionWrong : ChangeSpec := { name := "keyUnion", fn := fun _ => fun
  | [d1, d2, d3] => { results := [.lit (.bool false)], args := [d1, d2, d3] }
  | _ => none }
def KeyUnionWrongFalsely : Prop := keyUnionRow.holds Try.pinned (OpenSpec.ofChange keyUnionWrong)

/-- 'gazetteerlaw09.KeyTells': WHATEVER THE INPUT: true; the input reads as it did. -/
def keyTellsSpec : ChangeSpec := { name := "keyTells", fn := fun _ => fun
  | [d1, d2, d3] => { results := [.lit (.bool true)], args := [d1, d2, d3] }
  | _ => none }
def keyTellsRow : OpenClaim := { program := "ythlhmijgbjcloaa", sum := "c20d6bbe3d3de1251147cf5d65aee777e3a191d796777f62aadc91ed05987b62", func := "gazetteer/gazetteerlaw09.KeyTells", spec := "keyTells", unfollowed := true, recurses := true, apart := false }
def KeyTellsSaid : Prop := keyTellsRow.holds Try.pinned (OpenSpec.ofChange keyTellsSpec)

/-- ITS FALSE NEIGHBOUR: 'it returns false'. Refute it at one input. -/
def keyTellsWrong : ChangeSpec := { name := "keyTells", fn := fun _ => fun
  | [d1, d2, d3] => { results := [.lit (.bool false)], args := [d1, d2, d3] }
  | _ => none }
def KeyTellsWrongFalsely : Prop := keyTellsRow.holds Try.pinned (OpenSpec.ofChange keyTellsWrong)

/- THE SECOND FORM. 'bulk': how many values and letters a reading holds, each counted each time it is reached (what is shared counts as often as it is met; a slice's spare places count too). A statement '..UptoSaid' is the law's where the arguments, and the package variables that the reading takes, are together of bulk at most 1048576: NARROWER than '..Said'. Prove '..Said' where nothing that the law and all that it calls make is longer than what came in: it says more and counts as full. Else prove '..UptoSaid'. A law counts once. -/
mutual
def uptoBulk {H : Type} : DataW H → Nat
  | .lit (.string bytes) => bytes.length + 1
  | .lit _ => 1
  | .nil => 1
  | .ptr d => uptoBulk d + 1
  | .slice elems spare => uptoBulkAll elems + uptoBulkAll spare + 1
  | .agg parts => uptoBulkAll parts + 1
  | .iface _ d => uptoBulk d + 1
  | .map entries => uptoBulkEntries entries + 1
  | .held _ => 1
def uptoBulkAll {H : Type} : List (DataW H) → Nat
  | [] => 0
  | d :: r => uptoBulk d + uptoBulkAll r
def uptoBulkEntries {H : Type} : List (Lit × DataW H) → Nat
  | [] => 0
  | x :: r => uptoBulkEntry x + uptoBulkEntries r
def uptoBulkEntry {H : Type} : Lit × DataW H → Nat
  | (.string bytes, d) => bytes.length + uptoBulk d + 1
  | (_, d) => uptoBulk d + 1
 end
def uptoSmall : (H : Type) → List (DataW H) → Bool := fun _ ds => decide (uptoBulkAll ds ≤ 1048576)
def OpenSpec.upto (s : _root_.Go.ChangeSpec) : _root_.Go.OpenSpec := { _root_.Go.OpenSpec.ofChange s with cond := some uptoSmall }

/-- 'gazetteerlaw07.WideMul', WHERE WHAT IT READS IS OF BULK AT MOST 1048576: true; the input reads as it did. -/
def wideMulUptoRow : OpenClaim := { program := "ythlhmijgbjcloaa", sum := "c20d6bbe3d3de1251147cf5d65aee777e3a191d796777f62aadc91ed05987b62", func := "gazetteer/gazetteerlaw07.WideMul", spec := "wideMul", apart := false, narrowed := true }
def WideMulUptoSaid : Prop := wideMulUptoRow.holds Try.pinned (OpenSpec.upto wideMulSpec)

/-- 'gazetteerlaw07.WideTexts', WHERE WHAT IT READS IS OF BULK AT MOST 1048576: true; the input reads as it did. -/
def wideTextsUptoRow : OpenClaim := { program := "ythlhmijgbjcloaa", sum := "c20d6bbe3d3de1251147cf5d65aee777e3a191d796777f62aadc91ed05987b62", func := "gazetteer/gazetteerlaw07.WideTexts", spec := "wideTexts", apart := false, narrowed := true }
def WideTextsUptoSaid : Prop := wideTextsUptoRow.holds Try.pinned (OpenSpec.upto wideTextsSpec)

/-- 'gazetteerlaw07.WideOrder', WHERE WHAT IT READS IS OF BULK AT MOST 1048576: true; the input reads as it did. -/
def wideOrderUptoRow : OpenClaim := { program := "ythlhmijgbjcloaa", sum := "c20d6bbe3d3de1251147cf5d65aee777e3a191d796777f62aadc91ed05987b62", func := "gazetteer/gazetteerlaw07.WideOrder", spec := "wideOrder", apart := false, narrowed := true }
def WideOrderUptoSaid : Prop := wideOrderUptoRow.holds Try.pinned (OpenSpec.upto wideOrderSpec)

/-- 'gazetteerlaw07.WideBoxes', WHERE WHAT IT READS IS OF BULK AT MOST 1048576: true; the input reads as it did. -/
def wideBoxesUptoRow : OpenClaim := { program := "ythlhmijgbjcloaa", sum := "c20d6bbe3d3de1251147cf5d65aee777e3a191d796777f62aadc91ed05987b62", func := "gazetteer/gazetteerlaw07.WideBoxes", spec := "wideBoxes", apart := false, narrowed := true }
def WideBoxesUptoSaid : Prop := wideBoxesUptoRow.holds Try.pinned (OpenSpec.upto wideBoxesSpec)

/-- 'gazetteerlaw07.WideSums', WHERE WHAT IT READS IS OF BULK AT MOST 1048576: true; the input reads as it did. -/
def wideSumsUptoRow : OpenClaim := { program := "ythlhmijgbjcloaa", sum := "c20d6bbe3d3de1251147cf5d65aee777e3a191d796777f62aadc91ed05987b62", func := "gazetteer/gazetteerlaw07.WideSums", spec := "wideSums", apart := false, narrowed := true }
def WideSumsUptoSaid : Prop := wideSumsUptoRow.holds Try.pinned (OpenSpec.upto wideSumsSpec)

/-- 'gazetteerlaw07.WideTurns', WHERE WHAT IT READS IS OF BULK AT MOST 1048576: true; the input reads as it did. -/
def wideTurnsUptoRow : OpenClaim := { program := "ythlhmijgbjcloaa", sum := "c20d6bbe3d3de1251147cf5d65aee777e3a191d796777f62aadc91ed05987b62", func := "gazetteer/gazetteerlaw07.WideTurns", spec := "wideTurns", apart := false, narrowed := true }
def WideTurnsUptoSaid : Prop := wideTurnsUptoRow.holds Try.pinned (OpenSpec.upto wideTurnsSpec)

/-- 'gazetteerlaw07.WideGrows', WHERE WHAT IT READS IS OF BULK AT MOST 1048576: true; the input reads as it did. -/
def wideGrowsUptoRow : OpenClaim := { program := "ythlhmijgbjcloaa", sum := "c20d6bbe3d3de1251147cf5d65aee777e3a191d796777f62aadc91ed05987b62", func := "gazetteer/gazetteerlaw07.WideGrows", spec := "wideGrows", apart := false, narrowed := true }
def WideGrowsUptoSaid : Prop := wideGrowsUptoRow.holds Try.pinned (OpenSpec.upto wideGrowsSpec)

/-- 'gazetteerlaw09.KeyFair', WHERE WHAT IT READS IS OF BULK AT MOST 1048576: true; the input reads as it did. -/
def keyFairUptoRow : OpenClaim := { program := "ythlhmijgbjcloaa", sum := "c20d6bbe3d3de1251147cf5d65aee777e3a191d796777f62aadc91ed05987b62", func := "gazetteer/gazetteerlaw09.KeyFair", spec := "keyFair", unfollowed := true, recurses := true, apart := false, narrowed := true }
def KeyFairUptoSaid : Prop := keyFairUptoRow.holds Try.pinned (OpenSpec.upto keyFairSpec)

/-- 'gazetteerlaw09.KeyMeets', WHERE WHAT IT READS IS OF BULK AT MOST 1048576: true; the input reads as it did. -/
def keyMeetsUptoRow : OpenClaim := { program := "ythlhmijgbjcloaa", sum := "c20d6bbe3d3de1251147cf5d65aee777e3a191d796777f62aadc91ed05987b62", func := "gazetteer/gazetteerlaw09.KeyMeets", spec := "keyMeets", unfollowed := true, recurses := true, apart := false, narrowed := true }
def KeyMeetsUptoSaid : Prop := keyMeetsUptoRow.holds Try.pinned (OpenSpec.upto keyMeetsSpec)

/-- 'gazetteerlaw09.KeyGrows', WHERE WHAT IT READS IS OF BULK AT MOST 1048576: true; the input reads as it did. -/
def keyGrowsUptoRow : OpenClaim := { program := "ythlhmijgbjcloaa", sum := "c20d6bbe3d3de1251147cf5d65aee777e3a191d796777f62aadc91ed05987b62", func := "gazetteer/gazetteerlaw09.KeyGrows", spec := "keyGrows", unfollowed := true, recurses := true, apart := false, narrowed := true }
def KeyGrowsUptoSaid : Prop := keyGrowsUptoRow.holds Try.pinned (OpenSpec.upto keyGrowsSpec)

/-- 'gazetteerlaw09.KeyUnion', WHERE WHAT IT READS IS OF BULK AT MOST 1048576: true; the input reads as it did. -/
def keyUnionUptoRow : OpenClaim := { program := "ythlhmijgbjcloaa", sum := "c20d6bbe3d3de1251147cf5d65aee777e3a191d796777f62aadc91ed05987b62", func := "gazetteer/gazetteerlaw09.KeyUnion", spec := "keyUnion", unfollowed := true, recurses := true, apart := false, narrowed := true }
def KeyUnionUptoSaid : Prop := keyUnionUptoRow.holds Try.pinned (OpenSpec.upto keyUnionSpec)

/-- 'gazetteerlaw09.KeyTells', WHERE WHAT IT READS IS OF BULK AT MOST 1048576: true; the input reads as it did. -/
def keyTellsUptoRow : OpenClaim := { program := "ythlhmijgbjcloaa", sum := "c20d6bbe3d3de1251147cf5d65aee777e3a191d796777f62aadc91ed05987b62", func := "gazetteer/gazetteerlaw09.KeyTells", spec := "keyTells", unfollowed := true, recurses := true, apart := false, narrowed := true }
def KeyTellsUptoSaid : Prop := keyTellsUptoRow.holds Try.pinned (OpenSpec.upto keyTellsSpec)

end Rows
end Go.Proofs.Ythlhmijgbjcloaa
