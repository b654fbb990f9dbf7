/-
  No cell of these rows narrows 'for every input' (looked for: loops, veiled, ifaces, maps, wideKeys, modest, calm, conditions, laid).
  DERIVED. THE GIVEN ROWS OF THIS SEAT. 10 by the template 'for every input the law returns true; each argument reads behind the call as it read before'; 0 by the template 'total and deterministic' (their statements: YtknlbfandkmeiaaTotals.lean).
  GIVEN WITH THE SEED: the statements are not yours to turn. If you find one false, say at which input.
  Laid BY PROGRAM, IN A SANDBOX (cutbox-rows.mjs): the forced cells as the released guide's own fill.sh prints them over the translation 07a1fdb102396e05… (all of the seat's roots in one cut). By AI agents, Wed Nov 11 2026. No macro, syntax, notation, axiom, sorry.
-/
import Derived.Test.YtknlbfandkmeiaaChecked
import GoSem.Claim
import GoSem.ClaimJoined
import GoSem.ClaimMapViews
import Derived.JoinedTies
import Derived.KernelRfl
namespace Go.Proofs.Ytknlbfandkmeiaa
/- THE CELL 'sum', in the pinned program and in every row, IS THE sha256 OF THE DUMP (.gsa) THAT YtknlbfandkmeiaaProg.lean LOADS. Nothing in Lean hashes anything: it is a label: what it is worth is what the hold of that sum in a sandbox is worth. -/
noncomputable def Try.pinned : Pinned := { name := "ytknlbfandkmeiaa", sum := "07a1fdb102396e0566ee5512ee9298b0817f381ef243ac1de872f820338cfc07", checked := Try.checked }
namespace Rows
def none {H : Type} : Left H := { results := [], args := [] }

/-- 'gazetteerlaw22.ModelRuns': WHATEVER THE INPUT: true; the input reads as it did. -/
def modelRunsSpec : ChangeSpec := { name := "modelRuns", fn := fun _ => fun
  | [d1, d2, d3] => { results := [.lit (.bool true)], args := [d1, d2, d3] }
  | _ => none }
def modelRunsRow : OpenClaim := { program := "ytknlbfandkmeiaa", sum := "07a1fdb102396e0566ee5512ee9298b0817f381ef243ac1de872f820338cfc07", func := "gazetteer/gazetteerlaw22.ModelRuns", spec := "modelRuns", inPlace := ["slices.overlaps[gazetteer/api.Row]"], unfollowed := true, recurses := true, apart := false }
def ModelRunsSaid : Prop := modelRunsRow.holds Try.pinned (OpenSpec.ofChange modelRunsSpec)

/-- ITS FALSE NEIGHBOUR: 'it returns false'. Refute it at one input. -/
def modelRunsWrong : ChangeSpec := { name := "modelRuns", fn := fun _ => fun
  | [d1, d2, d3] => { results := [.lit (.bool false)], args := [d1, d2, d3] }
  | _ => none }
def ModelRunsWrongFalsely : Prop := modelRunsRow.holds Try.pinned (OpenSpec.ofChange modelRunsWrong)

/-- 'gazetteerlaw22.ModelApplies': WHATEVER THE INPUT: true; the input reads as it did. -/
def modelAppliesSpec : ChangeSpec := { name := "modelApplies", fn := fun _ => fun
  | [d1, d2, d3] => { results := [.lit (.bool true)], args := [d1, d2, d3] }
  | _ => none }
def modelAppliesRow : OpenClaim := { program := "ytknlbfandkmeiaa", sum := "07a1fdb102396e0566ee5512ee9298b0817f381ef243ac1de872f820338cfc07", func := "gazetteer/gazetteerlaw22.ModelApplies", spec := "modelApplies", inPlace := ["slices.overlaps[gazetteer/api.Row]"], unfollowed := true, recurses := true, apart := false }
def ModelAppliesSaid : Prop := modelAppliesRow.holds Try.pinned (OpenSpec.ofChange modelAppliesSpec)

/-- ITS FALSE NEIGHBOUR: 'it returns false'. Refute it at one input. -/
def modelAppliesWrong : ChangeSpec := { name := "modelApplies", fn := fun _ => fun
  | [d1, d2, d3] => { results := [.lit (.bool false)], args := [d1, d2, d3] }
  | _ => none }
def ModelAppliesWrongFalsely : Prop := modelAppliesRow.holds Try.pinned (OpenSpec.ofChange modelAppliesWrong)

/-- 'gazetteerlaw22.ModelBack': WHATEVER THE INPUT: true; the input reads as it did. -/
def modelBackSpec : ChangeSpec := { name := "modelBack", fn := fun _ => fun
  | [d1, d2] => { results := [.lit (.bool true)], args := [d1, d2] }
  | _ => none }
def modelBackRow : OpenClaim := { program := "ytknlbfandkmeiaa", sum := "07a1fdb102396e0566ee5512ee9298b0817f381ef243ac1de872f820338cfc07", func := "gazetteer/gazetteerlaw22.ModelBack", spec := "modelBack", inPlace := ["slices.overlaps[gazetteer/api.Row]"], unfollowed := true, recurses := true, apart := false }
def ModelBackSaid : Prop := modelBackRow.holds Try.pinned (OpenSpec.ofChange modelBackSpec)

/-- ITS FALSE NEIGHBOUR: 'it returns false'. Refute it at one input. -/
def modelBackWrong : ChangeSpec := { name := "modelBack", fn := fun _ => fun
  | [d1, d2] => { results := [.lit (.bool false)], args := [d1, d2] }
  | _ => none }
def ModelBackWrongFalsely : Prop := modelBackRow.holds Try.pinned (OpenSpec.ofChange modelBackWrong)

/-- 'gazetteerlaw22.ModelTells': WHATEVER THE INPUT: true; the input reads as it did. -/
def modelTellsSpec : ChangeSpec := { name := "modelTells", fn := fun _ => fun
  | [d1, d2, d3] => { results := [.lit (.bool true)], args := [d1, d2, d3] }
  | _ => none }
def modelTellsRow : OpenClaim := { program := "ytknlbfandkmeiaa", sum := "07a1fdb102396e0566ee5512ee9298b0817f381ef243ac1de872f820338cfc07", func := "gazetteer/gazetteerlaw22.ModelTells", spec := "modelTells", inPlace := ["slices.overlaps[gazetteer/api.Row]"], unfollowed := true, recurses := true, apart := false }
def ModelTellsSaid : Prop := modelTellsRow.holds Try.pinned (OpenSpec.ofChange modelTellsSpec)

/-- ITS FALSE NEIGHBOUR: 'it returns false'. Refute it at one input. -/
def modelTellsWrong : ChangeSpec := { name := "modelTells", fn := fun _ => fun
  | [d1, d2, d3] => { results := [.lit (.bool false)], args := [d1, d2, d3] }
  | _ => none }
def ModelTellsWrongFalsely : Prop := modelTellsRow.holds Try.pinned (OpenSpec.ofChange modelTellsWrong)

/-- 'gazetteerlaw22.ModelKeeps': WHATEVER THE INPUT: true; the input reads as it did. -/
def modelKeepsSpec : ChangeSpec := { name := "modelKeeps", fn := fun _ => fun
  | [d1, d2, d3] => { results := [.lit (.bool true)], args := [d1, d2, d3] }
  | _ => none }
def modelKeepsRow : OpenClaim := { program := "ytknlbfandkmeiaa", sum := "07a1fdb102396e0566ee5512ee9298b0817f381ef243ac1de872f820338cfc07", func := "gazetteer/gazetteerlaw22.ModelKeeps", spec := "modelKeeps", inPlace := ["slices.overlaps[gazetteer/api.Row]"], unfollowed := true, recurses := true, apart := false }
def ModelKeepsSaid : Prop := modelKeepsRow.holds Try.pinned (OpenSpec.ofChange modelKeepsSpec)

/-- ITS FALSE NEIGHBOUR: 'it returns false'. Refute it at one input. -/
def modelKeepsWrong : ChangeSpec := { name := "modelKeeps", fn := fun _ => fun
  | [d1, d2, d3] => { results := [.lit (.bool false)], args := [d1, d2, d3] }
  | _ => none }
def ModelKeepsWrongFalsely : Prop := modelKeepsRow.holds Try.pinned (OpenSpec.ofChange modelKeepsWrong)

/-- 'gazetteerlaw24.JudgeJudges': WHATEVER THE INPUT: true; the input reads as it did. -/
def judgeJudgesSpec : ChangeSpec := { name := "judgeJudges", fn := fun _ => fun
  | [d1, d2, d3] => { results := [.lit (.bool true)], args := [d1, d2, d3] }
  | _ => none }
def judgeJudgesRow : OpenClaim := { program := "ytknlbfandkmeiaa", sum := "07a1fdb102396e0566ee5512ee9298b0817f381ef243ac1de872f820338cfc07", func := "gazetteer/gazetteerlaw24.JudgeJudges", spec := "judgeJudges", inPlace := ["slices.overlaps[gazetteer/api.Row]"], unfollowed := true, recurses := true, apart := false }
def JudgeJudgesSaid : Prop := judgeJudgesRow.holds Try.pinned (OpenSpec.ofChange judgeJudgesSpec)

/-- ITS FALSE NEIGHBOUR: 'it returns false'. Refute it at one input. -/
def judgeJudgesWrong : ChangeSpec := { name := "judgeJudges", fn := fun _ => fun
  | [d1, d2, d3] => { results := [.lit (.bool false)], args := [d1, d2, d3] }
  | _ => none }
def JudgeJudgesWrongFalsely : Prop := judgeJudgesRow.holds Try.pinned (OpenSpec.ofChange judgeJudgesWrong)

/-- 'gazetteerlaw24.JudgeOnce': WHATEVER THE INPUT: true; the input reads as it did. -/
def judgeOnceSpec : ChangeSpec := { name := "judgeOnce", fn := fun _ => fun
  | [d] => { results := [.lit (.bool true)], args := [d] }
  | _ => none }
def judgeOnceRow : OpenClaim := { program := "ytknlbfandkmeiaa", sum := "07a1fdb102396e0566ee5512ee9298b0817f381ef243ac1de872f820338cfc07", func := "gazetteer/gazetteerlaw24.JudgeOnce", spec := "judgeOnce", inPlace := ["slices.overlaps[gazetteer/api.Row]"], unfollowed := true, recurses := true, apart := false }
def JudgeOnceSaid : Prop := judgeOnceRow.holds Try.pinned (OpenSpec.ofChange judgeOnceSpec)

/-- ITS FALSE NEIGHBOUR: 'it returns false'. Refute it at one input. -/
def judgeOnceWrong : ChangeSpec := { name := "judgeOnce", fn := fun _ => fun
  | [d] => { results := [.lit (.bool false)], args := [d] }
  | _ => none }
def JudgeOnceWrongFalsely : Prop := judgeOnceRow.holds Try.pinned (OpenSpec.ofChange judgeOnceWrong)

/-- 'gazetteerlaw24.JudgeAlone': WHATEVER THE INPUT: true; the input reads as it did. -/
def judgeAloneSpec : ChangeSpec := { name := "judgeAlone", fn := fun _ => fun
  | [d1, d2] => { results := [.lit (.bool true)], args := [d1, d2] }
  | _ => none }
def judgeAloneRow : OpenClaim := { program := "ytknlbfandkmeiaa", sum := "07a1fdb102396e0566ee5512ee9298b0817f381ef243ac1de872f820338cfc07", func := "gazetteer/gazetteerlaw24.JudgeAlone", spec := "judgeAlone", inPlace := ["slices.overlaps[gazetteer/api.Row]"], unfollowed := true, recurses := true, apart := false }
def JudgeAloneSaid : Prop := judgeAloneRow.holds Try.pinned (OpenSpec.ofChange judgeAloneSpec)

/-- ITS FALSE NEIGHBOUR: 'it returns false'. Refute it at one input. -/
def judgeAloneWrong : ChangeSpec := { name := "judgeAlone", fn := fun _ => fun
  | [d1, d2] => { results := [.lit (.bool false)], args := [d1, d2] }
  | _ => none }
def JudgeAloneWrongFalsely : Prop := judgeAloneRow.holds Try.pinned (OpenSpec.ofChange judgeAloneWrong)

/-- 'gazetteerlaw24.JudgeOrders': WHATEVER THE INPUT: true; the input reads as it did. -/
def judgeOrdersSpec : ChangeSpec := { name := "judgeOrders", fn := fun _ => fun
  | [d] => { results := [.lit (.bool true)], args := [d] }
  | _ => none }
def judgeOrdersRow : OpenClaim := { program := "ytknlbfandkmeiaa", sum := "07a1fdb102396e0566ee5512ee9298b0817f381ef243ac1de872f820338cfc07", func := "gazetteer/gazetteerlaw24.JudgeOrders", spec := "judgeOrders", inPlace := ["slices.overlaps[gazetteer/api.Row]"], unfollowed := true, recurses := true, apart := false }
def JudgeOrdersSaid : Prop := judgeOrdersRow.holds Try.pinned (OpenSpec.ofChange judgeOrdersSpec)

/-- ITS FALSE NEIGHBOUR: 'it returns false'. Refute it at one input. -/
def judgeOrdersWrong : ChangeSpec := { name := "judgeOrders", fn := fun _ => fun
  | [d] => { results := [.lit (.bool false)], args := [d] }
  | _ => none }
def JudgeOrdersWrongFalsely : Prop := judgeOrdersRow.holds Try.pinned (OpenSpec.ofChange judgeOrdersWrong)

/-- 'gazetteerlaw24.JudgeGone': WHATEVER THE INPUT: true; the input reads as it did. -/
def judgeGoneSpec : ChangeSpec := { name := "judgeGone", fn := fun _ => fun
  | [d1, d2, d3] => { results := [.lit (.bool true)], args := [d1, d2, d3] }
  | _ => none }
def judgeGoneRow : OpenClaim := { program := "ytknlbfandkmeiaa", sum := "07a1fdb102396e0566ee5512ee9298b0817f381ef243ac1de872f820338cfc07", func := "gazetteer/gazetteerlaw24.JudgeGone", spec := "judgeGone", inPlace := ["slices.overlaps[gazetteer/api.Row]"], unfollowed := true, recurses := true, apart := false }
def JudgeGoneSaid : Prop := judgeGoneRow.holds Try.pinned (OpenSpec.ofChange judgeGoneSpec)

/-- ITS FALSE NEIGHBOUR: 'it returns false'. Refute it at one input. -/
def judgeGoneWrong : ChangeSpec := { name := "judgeGone", fn := fun _ => fun
  | [d1, d2, d3] => { results := [.lit (.bool false)], args := [d1, d2, d3] }
  | _ => none }
def JudgeGoneWrongFalsely : Prop := judgeGoneRow.holds Try.pinned (OpenSpec.ofChange judgeGoneWrong)

/- THE SECOND FORM. 'bulk': how many values and letters a reading holds, each counted each time it is reached (what is shared counts as often as it is met; a slice's spare places count too). A statement '..UptoSaid' is the law's where the arguments, and the package variables that the reading takes, are together of bulk at most 1048576: NARROWER than '..Said'. Prove '..Said' where nothing that the law and all that it calls make is longer than what came in: it says more and counts as full. Else prove '..UptoSaid'. A law counts once. -/
mutual
def uptoBulk {H : Type} : DataW H → Nat
  | .lit (.string bytes) => bytes.length + 1
  | .lit _ => 1
  | .nil => 1
  | .ptr d => uptoBulk d + 1
  | .slice elems spare => uptoBulkAll elems + uptoBulkAll spare + 1
  | .agg parts => uptoBulkAll parts + 1
  | .iface _ d => uptoBulk d + 1
  | .map entries => uptoBulkEntries entries + 1
  | .held _ => 1
def uptoBulkAll {H : Type} : List (DataW H) → Nat
  | [] => 0
  | d :: r => uptoBulk d + uptoBulkAll r
def uptoBulkEntries {H : Type} : List (Lit × DataW H) → Nat
  | [] => 0
  | x :: r => uptoBulkEntry x + uptoBulkEntries r
def uptoBulkEntry {H : Type} : Lit × DataW H → Nat
  | (.string bytes, d) => bytes.length + uptoBulk d + 1
  | (_, d) => uptoBulk d + 1
 end
def uptoSmall : (H : Type) → List (DataW H) → Bool := fun _ ds => decide (uptoBulkAll ds ≤ 1048576)
def OpenSpec.upto (s : _root_.Go.ChangeSpec) : _root_.Go.OpenSpec := { _root_.Go.OpenSpec.ofChange s with cond := some uptoSmall }

/-- 'gazetteerlaw22.ModelRuns', WHERE WHAT IT READS IS OF BULK AT MOST 1048576: true; the input reads as it did. -/
def modelRunsUptoRow : OpenClaim := { program := "ytknlbfandkmeiaa", sum := "07a1fdb102396e0566ee5512ee9298b0817f381ef243ac1de872f820338cfc07", func := "gazetteer/gazetteerlaw22.ModelRuns", spec := "modelRuns", inPlace := ["slices.overlaps[gazetteer/api.Row]"], unfollowed := true, recurses := true, apart := false, narrowed := true }
def ModelRunsUptoSaid : Prop := modelRunsUptoRow.holds Try.pinned (OpenSpec.upto modelRunsSpec)

/-- 'gazetteerlaw22.ModelApplies', WHERE WHAT IT READS IS OF BULK AT MOST 1048576: true; the input reads as it did. -/
def modelAppliesUptoRow : OpenClaim := { program := "ytknlbfandkmeiaa", sum := "07a1fdb102396e0566ee5512ee9298b0817f381ef243ac1de872f820338cfc07", func := "gazetteer/gazetteerlaw22.ModelApplies", spec := "modelApplies", inPlace := ["slices.overlaps[gazetteer/api.Row]"], unfollowed := true, recurses := true, apart := false, narrowed := true }
def ModelAppliesUptoSaid : Prop := modelAppliesUptoRow.holds Try.pinned (OpenSpec.upto modelAppliesSpec)

/-- 'gazetteerlaw22.ModelBack', WHERE WHAT IT READS IS OF BULK AT MOST 1048576: true; the input reads as it did. -/
def modelBackUptoRow : OpenClaim := { program := "ytknlbfandkmeiaa", sum := "07a1fdb102396e0566ee5512ee9298b0817f381ef243ac1de872f820338cfc07", func := "gazetteer/gazetteerlaw22.ModelBack", spec := "modelBack", inPlace := ["slices.overlaps[gazetteer/api.Row]"], unfollowed := true, recurses := true, apart := false, narrowed := true }
def ModelBackUptoSaid : Prop := modelBackUptoRow.holds Try.pinned (OpenSpec.upto modelBackSpec)

/-- 'gazetteerlaw22.ModelTells', WHERE WHAT IT READS IS OF BULK AT MOST 1048576: true; the input reads as it did. -/
def modelTellsUptoRow : OpenClaim := { program := "ytknlbfandkmeiaa", sum := "07a1fdb102396e0566ee5512ee9298b0817f381ef243ac1de872f820338cfc07", func := "gazetteer/gazetteerlaw22.ModelTells", spec := "modelTells", inPlace := ["slices.overlaps[gazetteer/api.Row]"], unfollowed := true, recurses := true, apart := false, narrowed := true }
def ModelTellsUptoSaid : Prop := modelTellsUptoRow.holds Try.pinned (OpenSpec.upto modelTellsSpec)

/-- 'gazetteerlaw22.ModelKeeps', WHERE WHAT IT READS IS OF BULK AT MOST 1048576: true; the input reads as it did. -/
def modelKeepsUptoRow : OpenClaim := { program := "ytknlbfandkmeiaa", sum := "07a1fdb102396e0566ee5512ee9298b0817f381ef243ac1de872f820338cfc07", func := "gazetteer/gazetteerlaw22.ModelKeeps", spec := "modelKeeps", inPlace := ["slices.overlaps[gazetteer/api.Row]"], unfollowed := true, recurses := true, apart := false, narrowed := true }
def ModelKeepsUptoSaid : Prop := modelKeepsUptoRow.holds Try.pinned (OpenSpec.upto modelKeepsSpec)

/-- 'gazetteerlaw24.JudgeJudges', WHERE WHAT IT READS IS OF BULK AT MOST 1048576: true; the input reads as it did. -/
def judgeJudgesUptoRow : OpenClaim := { program := "ytknlbfandkmeiaa", sum := "07a1fdb102396e0566ee5512ee9298b0817f381ef243ac1de872f820338cfc07", func := "gazetteer/gazetteerlaw24.JudgeJudges", spec := "judgeJudges", inPlace := ["slices.overlaps[gazetteer/api.Row]"], unfollowed := true, recurses := true, apart := false, narrowed := true }
def JudgeJudgesUptoSaid : Prop := judgeJudgesUptoRow.holds Try.pinned (OpenSpec.upto judgeJudgesSpec)

/-- 'gazetteerlaw24.JudgeOnce', WHERE WHAT IT READS IS OF BULK AT MOST 1048576: true; the input reads as it did. -/
def judgeOnceUptoRow : OpenClaim := { program := "ytknlbfandkmeiaa", sum := "07a1fdb102396e0566ee5512ee9298b0817f381ef243ac1de872f820338cfc07", func := "gazetteer/gazetteerlaw24.JudgeOnce", spec := "judgeOnce", inPlace := ["slices.overlaps[gazetteer/api.Row]"], unfollowed := true, recurses := true, apart := false, narrowed := true }
def JudgeOnceUptoSaid : Prop := judgeOnceUptoRow.holds Try.pinned (OpenSpec.upto judgeOnceSpec)

/-- 'gazetteerlaw24.JudgeAlone', WHERE WHAT IT READS IS OF BULK AT MOST 1048576: true; the input reads as it did. -/
def judgeAloneUptoRow : OpenClaim := { program := "ytknlbfandkmeiaa", sum := "07a1fdb102396e0566ee5512ee9298b0817f381ef243ac1de872f820338cfc07", func := "gazetteer/gazetteerlaw24.JudgeAlone", spec := "judgeAlone", inPlace := ["slices.overlaps[gazetteer/api.Row]"], unfollowed := true, recurses := true, apart := false, narrowed := true }
def JudgeAloneUptoSaid : Prop := judgeAloneUptoRow.holds Try.pinned (OpenSpec.upto judgeAloneSpec)

/-- 'gazetteerlaw24.JudgeOrders', WHERE WHAT IT READS IS OF BULK AT MOST 1048576: true; the input reads as it did. -/
def judgeOrdersUptoRow : OpenClaim := { program := "ytknlbfandkmeiaa", sum := "07a1fdb102396e0566ee5512ee9298b0817f381ef243ac1de872f820338cfc07", func := "gazetteer/gazetteerlaw24.JudgeOrders", spec := "judgeOrders", inPlace := ["slices.overlaps[gazetteer/api.Row]"], unfollowed := true, recurses := true, apart := false, narrowed := true }
def JudgeOrdersUptoSaid : Prop := judgeOrdersUptoRow.holds Try.pinned (OpenSpec.upto judgeOrdersSpec)

/-- 'gazetteerlaw24.JudgeGone', WHERE WHAT IT READS IS OF BULK AT MOST 1048576: true; the input reads as it did. -/
def judgeGoneUptoRow : OpenClaim := { program := "ytknlbfandkmeiaa", sum := "07a1fdb102396e0566ee5512ee9298b0817f381ef243ac1de872f820338cfc07", func := "gazetteer/gazetteerlaw24.JudgeGone", spec := "judgeGone", inPlace := ["slices.overlaps[gazetteer/api.Row]"], unfollowed := true, recurses := true, apart := false, narrowed := true }
def JudgeGoneUptoSaid : Prop := judgeGoneUptoRow.holds Try.pinned (OpenSpec.upto judgeGoneSpec)

end Rows
end Go.Proofs.Ytknlbfandkmeiaa
