/-
  No cell of these rows narrows 'for every input' (looked for: loops, veiled, ifaces, maps, wideKeys, modest, calm, conditions, laid).
  DERIVED. THE GIVEN ROWS OF THIS SEAT. 6 by the template 'for every input the law returns true; each argument reads behind the call as it read before'; 0 by the template 'total and deterministic' (their statements: YtfggjefncnhikaaTotals.lean).
  GIVEN WITH THE SEED: the statements are not yours to turn. If you find one false, say at which input.
  Laid BY PROGRAM, IN A SANDBOX (cutbox-rows.mjs): the forced cells as the released guide's own fill.sh prints them over the translation 7400953ad7ce5433… (all of the seat's roots in one cut). By AI agents, Wed Nov 11 2026. No macro, syntax, notation, axiom, sorry.
-/
import Derived.Test.YtfggjefncnhikaaChecked
import GoSem.Claim
import GoSem.ClaimJoined
import GoSem.ClaimMapViews
import Derived.JoinedTies
import Derived.KernelRfl
namespace Go.Proofs.Ytfggjefncnhikaa
/- THE CELL 'sum', in the pinned program and in every row, IS THE sha256 OF THE DUMP (.gsa) THAT YtfggjefncnhikaaProg.lean LOADS. Nothing in Lean hashes anything: it is a label: what it is worth is what the hold of that sum in a sandbox is worth. -/
noncomputable def Try.pinned : Pinned := { name := "ytfggjefncnhikaa", sum := "7400953ad7ce5433baafbda3e8d0a4948b54d76d82b6f806f00877be3a295b42", checked := Try.checked }
namespace Rows
def none {H : Type} : Left H := { results := [], args := [] }

/-- 'gazetteerlaw17.VisionCounts': WHATEVER THE INPUT: true; the input reads as it did. -/
def visionCountsSpec : ChangeSpec := { name := "visionCounts", fn := fun _ => fun
  | [d1, d2, d3] => { results := [.lit (.bool true)], args := [d1, d2, d3] }
  | _ => none }
def visionCountsRow : OpenClaim := { program := "ytfggjefncnhikaa", sum := "7400953ad7ce5433baafbda3e8d0a4948b54d76d82b6f806f00877be3a295b42", func := "gazetteer/gazetteerlaw17.VisionCounts", spec := "visionCounts", unfollowed := true, recurses := true, apart := false }
def VisionCountsSaid : Prop := visionCountsRow.holds Try.pinned (OpenSpec.ofChange visionCountsSpec)

/-- ITS FALSE NEIGHBOUR: 'it returns false'. Refute it at one input. -/
def visionCountsWrong : ChangeSpec := { name := "visionCounts", fn := fun _ => fun
  | [d1, d2, d3] => { results := [.lit (.bool false)], args := [d1, d2, d3] }
  | _ => none }
def VisionCountsWrongFalsely : Prop := visionCountsRow.holds Try.pinned (OpenSpec.ofChange visionCountsWrong)

/-- 'gazetteerlaw17.VisionStays': WHATEVER THE INPUT: true; the input reads as it did. -/
def visionStaysSpec : ChangeSpec := { name := "visionStays", fn := fun _ => fun
  | [d1, d2, d3] => { results := [.lit (.bool true)], args := [d1, d2, d3] }
  | _ => none }
def visionStaysRow : OpenClaim := { program := "ytfggjefncnhikaa", sum := "7400953ad7ce5433baafbda3e8d0a4948b54d76d82b6f806f00877be3a295b42", func := "gazetteer/gazetteerlaw17.VisionStays", spec := "visionStays", unfollowed := true, recurses := true, apart := false }
def VisionStaysSaid : Prop := visionStaysRow.holds Try.pinned (OpenSpec.ofChange visionStaysSpec)

/-- ITS FALSE NEIGHBOUR: 'it returns false'. Refute it at one input. -/
def visionStaysWrong : ChangeSpec := { name := "visionStays", fn := fun _ => fun
  | [d1, d2, d3] => { results := [.lit (.bool false)], args := [d1, d2, d3] }
  | _ => none }
def VisionStaysWrongFalsely : Prop := visionStaysRow.holds Try.pinned (OpenSpec.ofChange visionStaysWrong)

/-- 'gazetteerlaw17.VisionChain': WHATEVER THE INPUT: true; the input reads as it did. -/
def visionChainSpec : ChangeSpec := { name := "visionChain", fn := fun _ => fun
  | [d1, d2, d3] => { results := [.lit (.bool true)], args := [d1, d2, d3] }
  | _ => none }
def visionChainRow : OpenClaim := { program := "ytfggjefncnhikaa", sum := "7400953ad7ce5433baafbda3e8d0a4948b54d76d82b6f806f00877be3a295b42", func := "gazetteer/gazetteerlaw17.VisionChain", spec := "visionChain", unfollowed := true, recurses := true, apart := false }
def VisionChainSaid : Prop := visionChainRow.holds Try.pinned (OpenSpec.ofChange visionChainSpec)

/-- ITS FALSE NEIGHBOUR: 'it returns false'. Refute it at one input. -/
def visionChainWrong : ChangeSpec := { name := "visionChain", fn := fun _ => fun
  | [d1, d2, d3] => { results := [.lit (.bool false)], args := [d1, d2, d3] }
  | _ => none }
def VisionChainWrongFalsely : Prop := visionChainRow.holds Try.pinned (OpenSpec.ofChange visionChainWrong)

/-- 'gazetteerlaw17.VisionDead': WHATEVER THE INPUT: true; the input reads as it did. -/
def visionDeadSpec : ChangeSpec := { name := "visionDead", fn := fun _ => fun
  | [d1, d2, d3] => { results := [.lit (.bool true)], args := [d1, d2, d3] }
  | _ => none }
def visionDeadRow : OpenClaim := { program := "ytfggjefncnhikaa", sum := "7400953ad7ce5433baafbda3e8d0a4948b54d76d82b6f806f00877be3a295b42", func := "gazetteer/gazetteerlaw17.VisionDead", spec := "visionDead", unfollowed := true, recurses := true, apart := false }
def VisionDeadSaid : Prop := visionDeadRow.holds Try.pinned (OpenSpec.ofChange visionDeadSpec)

/-- ITS FALSE NEIGHBOUR: 'it returns false'. Refute it at one input. -/
def visionDeadWrong : ChangeSpec := { name := "visionDead", fn := fun _ => fun
  | [d1, d2, d3] => { results := [.lit (.bool false)], args := [d1, d2, d3] }
  | _ => none }
def VisionDeadWrongFalsely : Prop := visionDeadRow.holds Try.pinned (OpenSpec.ofChange visionDeadWrong)

/-- 'gazetteerlaw17.VisionGone': WHATEVER THE INPUT: true; the input reads as it did. -/
def visionGoneSpec : ChangeSpec := { name := "visionGone", fn := fun _ => fun
  | [d1, d2, d3] => { results := [.lit (.bool true)], args := [d1, d2, d3] }
  | _ => none }
def visionGoneRow : OpenClaim := { program := "ytfggjefncnhikaa", sum := "7400953ad7ce5433baafbda3e8d0a4948b54d76d82b6f806f00877be3a295b42", func := "gazetteer/gazetteerlaw17.VisionGone", spec := "visionGone", unfollowed := true, recurses := true, apart := false }
def VisionGoneSaid : Prop := visionGoneRow.holds Try.pinned (OpenSpec.ofChange visionGoneSpec)

/-- ITS FALSE NEIGHBOUR: 'it returns false'. Refute it at one input. -/
def visionGoneWrong : ChangeSpec := { name := "visionGone", fn := fun _ => fun
  | [d1, d2, d3] => { results := [.lit (.bool false)], args := [d1, d2, d3] }
  | _ => none }
def VisionGoneWrongFalsely : Prop := visionGoneRow.holds Try.pinned (OpenSpec.ofChange visionGoneWrong)

/-- 'gazetteerlaw17.VisionSeen': WHATEVER THE INPUT: true; the input reads as it did. -/
def visionSeenSpec : ChangeSpec := { name := "visionSeen", fn := fun _ => fun
  | [d1, d2, d3] => { results := [.lit (.bool true)], args := [d1, d2, d3] }
  | _ => none }
def visionSeenRow : OpenClaim := { program := "ytfggjefncnhikaa", sum := "7400953ad7ce5433baafbda3e8d0a4948b54d76d82b6f806f00877be3a295b42", func := "gazetteer/gazetteerlaw17.VisionSeen", spec := "visionSeen", unfollowed := true, recurses := true, apart := false }
def VisionSeenSaid : Prop := visionSeenRow.holds Try.pinned (OpenSpec.ofChange visionSeenSpec)

/-- ITS FALSE NEIGHBOUR: 'it returns false'. Refute it at one input. -/
def visionSeenWrong : ChangeSpec := { name := "visionSeen", fn := fun _ => fun
  | [d1, d2, d3] => { results := [.lit (.bool false)], args := [d1, d2, d3] }
  | _ => none }
def VisionSeenWrongFalsely : Prop := visionSeenRow.holds Try.pinned (OpenSpec.ofChange visionSeenWrong)

/- THE SECOND FORM. 'bulk': how many values and letters a reading holds, each counted each time it is reached (what is shared counts as often as it is met; a slice's spare places count too). A statement '..UptoSaid' is the law's where the arguments, and the package variables that the reading takes, are together of bulk at most 1048576: NARROWER than '..Said'. Prove '..Said' where nothing that the law and all that it calls make is longer than what came in: it says more and counts as full. Else prove '..UptoSaid'. A law counts once. -/
mutual
def uptoBulk {H : Type} : DataW H → Nat
  | .lit (.string bytes) => bytes.length + 1
  | .lit _ => 1
  | .nil => 1
  | .ptr d => uptoBulk d + 1
  | .slice elems spare => uptoBulkAll elems + uptoBulkAll spare + 1
  | .agg parts => uptoBulkAll parts + 1
  | .iface _ d => uptoBulk d + 1
  | .map entries => uptoBulkEntries entries + 1
  | .held _ => 1
def uptoBulkAll {H : Type} : List (DataW H) → Nat
  | [] => 0
  | d :: r => uptoBulk d + uptoBulkAll r
def uptoBulkEntries {H : Type} : List (Lit × DataW H) → Nat
  | [] => 0
  | x :: r => uptoBulkEntry x + uptoBulkEntries r
def uptoBulkEntry {H : Type} : Lit × DataW H → Nat
  | (.string bytes, d) => bytes.length + uptoBulk d + 1
  | (_, d) => uptoBulk d + 1
 end
def uptoSmall : (H : Type) → List (DataW H) → Bool := fun _ ds => decide (uptoBulkAll ds ≤ 1048576)
def OpenSpec.upto (s : _root_.Go.ChangeSpec) : _root_.Go.OpenSpec := { _root_.Go.OpenSpec.ofChange s with cond := some uptoSmall }

/-- 'gazetteerlaw17.VisionCounts', WHERE WHAT IT READS IS OF BULK AT MOST 1048576: true; the input reads as it did. -/
def visionCountsUptoRow : OpenClaim := { program := "ytfggjefncnhikaa", sum := "7400953ad7ce5433baafbda3e8d0a4948b54d76d82b6f806f00877be3a295b42", func := "gazetteer/gazetteerlaw17.VisionCounts", spec := "visionCounts", unfollowed := true, recurses := true, apart := false, narrowed := true }
def VisionCountsUptoSaid : Prop := visionCountsUptoRow.holds Try.pinned (OpenSpec.upto visionCountsSpec)

/-- 'gazetteerlaw17.VisionStays', WHERE WHAT IT READS IS OF BULK AT MOST 1048576: true; the input reads as it did. -/
def visionStaysUptoRow : OpenClaim := { program := "ytfggjefncnhikaa", sum := "7400953ad7ce5433baafbda3e8d0a4948b54d76d82b6f806f00877be3a295b42", func := "gazetteer/gazetteerlaw17.VisionStays", spec := "visionStays", unfollowed := true, recurses := true, apart := false, narrowed := true }
def VisionStaysUptoSaid : Prop := visionStaysUptoRow.holds Try.pinned (OpenSpec.upto visionStaysSpec)

/-- 'gazetteerlaw17.VisionChain', WHERE WHAT IT READS IS OF BULK AT MOST 1048576: true; the input reads as it did. -/
def visionChainUptoRow : OpenClaim := { program := "ytfggjefncnhikaa", sum := "7400953ad7ce5433baafbda3e8d0a4948b54d76d82b6f806f00877be3a295b42", func := "gazetteer/gazetteerlaw17.VisionChain", spec := "visionChain", unfollowed := true, recurses := true, apart := false, narrowed := true }
def VisionChainUptoSaid : Prop := visionChainUptoRow.holds Try.pinned (OpenSpec.upto visionChainSpec)

/-- 'gazetteerlaw17.VisionDead', WHERE WHAT IT READS IS OF BULK AT MOST 1048576: true; the input reads as it did. -/
def visionDeadUptoRow : OpenClaim := { program := "ytfggjefncnhikaa", sum := "7400953ad7ce5433baafbda3e8d0a4948b54d76d82b6f806f00877be3a295b42", func := "gazetteer/gazetteerlaw17.VisionDead", spec := "visionDead", unfollowed := true, recurses := true, apart := false, narrowed := true }
def VisionDeadUptoSaid : Prop := visionDeadUptoRow.holds Try.pinned (OpenSpec.upto visionDeadSpec)

/-- 'gazetteerlaw17.VisionGone', WHERE WHAT IT READS IS OF BULK AT MOST 1048576: true; the input reads as it did. -/
def visionGoneUptoRow : OpenClaim := { program := "ytfggjefncnhikaa", sum := "7400953ad7ce5433baafbda3e8d0a4948b54d76d82b6f806f00877be3a295b42", func := "gazetteer/gazetteerlaw17.VisionGone", spec := "visionGone", unfollowed := true, recurses := true, apart := false, narrowed := true }
def VisionGoneUptoSaid : Prop := visionGoneUptoRow.holds Try.pinned (OpenSpec.upto visionGoneSpec)

/-- 'gazetteerlaw17.VisionSeen', WHERE WHAT IT READS IS OF BULK AT MOST 1048576: true; the input reads as it did. -/
def visionSeenUptoRow : OpenClaim := { program := "ytfggjefncnhikaa", sum := "7400953ad7ce5433baafbda3e8d0a4948b54d76d82b6f806f00877be3a295b42", func := "gazetteer/gazetteerlaw17.VisionSeen", spec := "visionSeen", unfollowed := true, recurses := true, apart := false, narrowed := true }
def VisionSeenUptoSaid : Prop := visionSeenUptoRow.holds Try.pinned (OpenSpec.upto visionSeenSpec)

end Rows
end Go.Proofs.Ytfggjefncnhikaa
