/-
  No cell of these rows narrows 'for every input' (looked for: loops, veiled, ifaces, maps, wideKeys, modest, calm, conditions, laid).
  DERIVED. THE GIVEN ROWS OF THIS SEAT. 11 by the template 'for every input the law returns true; each argument reads behind the call as it read before'; 0 by the template 'total and deterministic' (their statements: YteenopeoblkakaaTotals.lean).
  GIVEN WITH THE SEED: the statements are not yours to turn. If you find one false, say at which input.
  Laid BY PROGRAM, IN A SANDBOX (cutbox-rows.mjs): the forced cells as the released guide's own fill.sh prints them over the translation 84c7f95d18346a59… (all of the seat's roots in one cut). By AI agents, Wed Nov 11 2026. No macro, syntax, notation, axiom, sorry.
-/
import Derived.Test.YteenopeoblkakaaChecked
import GoSem.Claim
import GoSem.ClaimJoined
import GoSem.ClaimMapViews
import Derived.JoinedTies
import Derived.KernelRfl
namespace Go.Proofs.Yteenopeoblkakaa
/- THE CELL 'sum', in the pinned program and in every row, IS THE sha256 OF THE DUMP (.gsa) THAT YteenopeoblkakaaProg.lean LOADS. Nothing in Lean hashes anything: it is a label: what it is worth is what the hold of that sum in a sandbox is worth. -/
noncomputable def Try.pinned : Pinned := { name := "yteenopeoblkakaa", sum := "84c7f95d18346a59014f0aef7c334a4bc28cfe7a6ac3fd7249a23ced8f0fe88e", checked := Try.checked }
namespace Rows
def none {H : Type} : Left H := { results := [], args := [] }

/-- 'laws.FnRewrite': WHATEVER THE INPUT: true; the input reads as it did. -/
def fnRewriteSpec : ChangeSpec := { name := "fnRewrite", fn := fun _ => fun
  | [d1, d2] => { results := [.lit (.bool true)], args := [d1, d2] }
  | _ => none }
def fnRewriteRow : OpenClaim := { program := "yteenopeoblkakaa", sum := "84c7f95d18346a59014f0aef7c334a4bc28cfe7a6ac3fd7249a23ced8f0fe88e", func := "loop.example/g00373/laws.FnRewrite", spec := "fnRewrite", unfollowed := true, recurses := true, apart := false }
def FnRewriteSaid : Prop := fnRewriteRow.holds Try.pinned (OpenSpec.ofChange fnRewriteSpec)

/-- ITS FALSE NEIGHBOUR: 'it returns false'. Refute it at one input. -/
def fnRewriteWrong : ChangeSpec := { name := "fnRewrite", fn := fun _ => fun
  | [d1, d2] => { results := [.lit (.bool false)], args := [d1, d2] }
  | _ => none }
def FnRewriteWrongFalsely : Prop := fnRewriteRow.holds Try.pinned (OpenSpec.ofChange fnRewriteWrong)

/-- 'laws.FnExactRunFlow': WHATEVER THE INPUT: true; the input reads as it did. -/
def fnExactRunFlowSpec : ChangeSpec := { name := "fnExactRunFlow", fn := fun _ => fun
  | [d1, d2, d3] => { results := [.lit (.bool true)], args := [d1, d2, d3] }
  | _ => none }
def fnExactRunFlowRow : OpenClaim := { program := "yteenopeoblkakaa", sum := "84c7f95d18346a59014f0aef7c334a4bc28cfe7a6ac3fd7249a23ced8f0fe88e", func := "loop.example/g00373/laws.FnExactRunFlow", spec := "fnExactRunFlow", unfollowed := true, recurses := true, apart := false }
def FnExactRunFlowSaid : Prop := fnExactRunFlowRow.holds Try.pinned (OpenSpec.ofChange fnExactRunFlowSpec)

/-- ITS FALSE NEIGHBOUR: 'it returns false'. Refute it at one input. -/
def fnExactRunFlowWrong : ChangeSpec := { name := "fnExactRunFlow", fn := fun _ => fun
  | [d1, d2, d3] => { results := [.lit (.bool false)], args := [d1, d2, d3] }
  | _ => none }
def FnExactRunFlowWrongFalsely : Prop := fnExactRunFlowRow.holds Try.pinned (OpenSpec.ofChange fnExactRunFlowWrong)

/-- 'laws.FnExactSavedBy': WHATEVER THE INPUT: true; the input reads as it did. -/
def fnExactSavedBySpec : ChangeSpec := { name := "fnExactSavedBy", fn := fun _ => fun
  | [d1, d2] => { results := [.lit (.bool true)], args := [d1, d2] }
  | _ => none }
def fnExactSavedByRow : OpenClaim := { program := "yteenopeoblkakaa", sum := "84c7f95d18346a59014f0aef7c334a4bc28cfe7a6ac3fd7249a23ced8f0fe88e", func := "loop.example/g00373/laws.FnExactSavedBy", spec := "fnExactSavedBy", unfollowed := true, recurses := true, apart := false }
def FnExactSavedBySaid : Prop := fnExactSavedByRow.holds Try.pinned (OpenSpec.ofChange fnExactSavedBySpec)

/-- ITS FALSE NEIGHBOUR: 'it returns false'. Refute it at one input. -/
def fnExactSavedByWrong : ChangeSpec := { name := "fnExactSavedBy", fn := fun _ => fun
  | [d1, d2] => { results := [.lit (.bool false)], args := [d1, d2] }
  | _ => none }
def FnExactSavedByWrongFalsely : Prop := fnExactSavedByRow.holds Try.pinned (OpenSpec.ofChange fnExactSavedByWrong)

/-- 'laws.FnExactStackBlock': WHATEVER THE INPUT: true; the input reads as it did. -/
def fnExactStackBlockSpec : ChangeSpec := { name := "fnExactStackBlock", fn := fun _ => fun
  | [d1, d2] => { results := [.lit (.bool true)], args := [d1, d2] }
  | _ => none }
def fnExactStackBlockRow : OpenClaim := { program := "yteenopeoblkakaa", sum := "84c7f95d18346a59014f0aef7c334a4bc28cfe7a6ac3fd7249a23ced8f0fe88e", func := "loop.example/g00373/laws.FnExactStackBlock", spec := "fnExactStackBlock", unfollowed := true, recurses := true, apart := false }
def FnExactStackBlockSaid : Prop := fnExactStackBlockRow.holds Try.pinned (OpenSpec.ofChange fnExactStackBlockSpec)

/-- ITS FALSE NEIGHBOUR: 'it returns false'. Refute it at one input. -/
def fnExactStackBlockWrong : ChangeSpec := { name := "fnExactStackBlock", fn := fun _ => fun
  | [d1, d2] => { results := [.lit (.bool false)], args := [d1, d2] }
  | _ => none }
def FnExactStackBlockWrongFalsely : Prop := fnExactStackBlockRow.holds Try.pinned (OpenSpec.ofChange fnExactStackBlockWrong)

/-- 'laws.FnExactStepsDone': WHATEVER THE INPUT: true; the input reads as it did. -/
def fnExactStepsDoneSpec : ChangeSpec := { name := "fnExactStepsDone", fn := fun _ => fun
  | [d1, d2, d3] => { results := [.lit (.bool true)], args := [d1, d2, d3] }
  | _ => none }
def fnExactStepsDoneRow : OpenClaim := { program := "yteenopeoblkakaa", sum := "84c7f95d18346a59014f0aef7c334a4bc28cfe7a6ac3fd7249a23ced8f0fe88e", func := "loop.example/g00373/laws.FnExactStepsDone", spec := "fnExactStepsDone", unfollowed := true, recurses := true, apart := false }
def FnExactStepsDoneSaid : Prop := fnExactStepsDoneRow.holds Try.pinned (OpenSpec.ofChange fnExactStepsDoneSpec)

/-- ITS FALSE NEIGHBOUR: 'it returns false'. Refute it at one input. -/
def fnExactStepsDoneWrong : ChangeSpec := { name := "fnExactStepsDone", fn := fun _ => fun
  | [d1, d2, d3] => { results := [.lit (.bool false)], args := [d1, d2, d3] }
  | _ => none }
def FnExactStepsDoneWrongFalsely : Prop := fnExactStepsDoneRow.holds Try.pinned (OpenSpec.ofChange fnExactStepsDoneWrong)

/-- 'laws.FnExactCanStruct': WHATEVER THE INPUT: true; the input reads as it did. -/
def fnExactCanStructSpec : ChangeSpec := { name := "fnExactCanStruct", fn := fun _ => fun
  | [d] => { results := [.lit (.bool true)], args := [d] }
  | _ => none }
def fnExactCanStructRow : OpenClaim := { program := "yteenopeoblkakaa", sum := "84c7f95d18346a59014f0aef7c334a4bc28cfe7a6ac3fd7249a23ced8f0fe88e", func := "loop.example/g00373/laws.FnExactCanStruct", spec := "fnExactCanStruct", unfollowed := true, recurses := true, apart := false }
def FnExactCanStructSaid : Prop := fnExactCanStructRow.holds Try.pinned (OpenSpec.ofChange fnExactCanStructSpec)

/-- ITS FALSE NEIGHBOUR: 'it returns false'. Refute it at one input. -/
def fnExactCanStructWrong : ChangeSpec := { name := "fnExactCanStruct", fn := fun _ => fun
  | [d] => { results := [.lit (.bool false)], args := [d] }
  | _ => none }
def FnExactCanStructWrongFalsely : Prop := fnExactCanStructRow.holds Try.pinned (OpenSpec.ofChange fnExactCanStructWrong)

/-- 'laws.FnExactAlike': WHATEVER THE INPUT: true; the input reads as it did. -/
def fnExactAlikeSpec : ChangeSpec := { name := "fnExactAlike", fn := fun _ => fun
  | [d1, d2, d3, d4] => { results := [.lit (.bool true)], args := [d1, d2, d3, d4] }
  | _ => none }
def fnExactAlikeRow : OpenClaim := { program := "yteenopeoblkakaa", sum := "84c7f95d18346a59014f0aef7c334a4bc28cfe7a6ac3fd7249a23ced8f0fe88e", func := "loop.example/g00373/laws.FnExactAlike", spec := "fnExactAlike", unfollowed := true, recurses := true, apart := false }
def FnExactAlikeSaid : Prop := fnExactAlikeRow.holds Try.pinned (OpenSpec.ofChange fnExactAlikeSpec)

/-- ITS FALSE NEIGHBOUR: 'it returns false'. Refute it at one input. -/
def fnExactAlikeWrong : ChangeSpec := { name := "fnExactAlike", fn := fun _ => fun
  | [d1, d2, d3, d4] => { results := [.lit (.bool false)], args := [d1, d2, d3, d4] }
  | _ => none }
def FnExactAlikeWrongFalsely : Prop := fnExactAlikeRow.holds Try.pinned (OpenSpec.ofChange fnExactAlikeWrong)

/-- 'laws.FnExactSameRuns': WHATEVER THE INPUT: true; the input reads as it did. -/
def fnExactSameRunsSpec : ChangeSpec := { name := "fnExactSameRuns", fn := fun _ => fun
  | [d1, d2, d3, d4] => { results := [.lit (.bool true)], args := [d1, d2, d3, d4] }
  | _ => none }
def fnExactSameRunsRow : OpenClaim := { program := "yteenopeoblkakaa", sum := "84c7f95d18346a59014f0aef7c334a4bc28cfe7a6ac3fd7249a23ced8f0fe88e", func := "loop.example/g00373/laws.FnExactSameRuns", spec := "fnExactSameRuns", unfollowed := true, recurses := true, apart := false }
def FnExactSameRunsSaid : Prop := fnExactSameRunsRow.holds Try.pinned (OpenSpec.ofChange fnExactSameRunsSpec)

/-- ITS FALSE NEIGHBOUR: 'it returns false'. Refute it at one input. -/
def fnExactSameRunsWrong : ChangeSpec := { name := "fnExactSameRuns", fn := fun _ => fun
  | [d1, d2, d3, d4] => { results := [.lit (.bool false)], args := [d1, d2, d3, d4] }
  | _ => none }
def FnExactSameRunsWrongFalsely : Prop := fnExactSameRunsRow.holds Try.pinned (OpenSpec.ofChange fnExactSameRunsWrong)

/-- 'laws.FnExactRunSteps': WHATEVER THE INPUT: true; the input reads as it did. -/
def fnExactRunStepsSpec : ChangeSpec := { name := "fnExactRunSteps", fn := fun _ => fun
  | [d1, d2, d3] => { results := [.lit (.bool true)], args := [d1, d2, d3] }
  | _ => none }
def fnExactRunStepsRow : OpenClaim := { program := "yteenopeoblkakaa", sum := "84c7f95d18346a59014f0aef7c334a4bc28cfe7a6ac3fd7249a23ced8f0fe88e", func := "loop.example/g00373/laws.FnExactRunSteps", spec := "fnExactRunSteps", unfollowed := true, recurses := true, apart := false }
def FnExactRunStepsSaid : Prop := fnExactRunStepsRow.holds Try.pinned (OpenSpec.ofChange fnExactRunStepsSpec)

/-- ITS FALSE NEIGHBOUR: 'it returns false'. Refute it at one input. -/
def fnExactRunStepsWrong : ChangeSpec := { name := "fnExactRunSteps", fn := fun _ => fun
  | [d1, d2, d3] => { results := [.lit (.bool false)], args := [d1, d2, d3] }
  | _ => none }
def FnExactRunStepsWrongFalsely : Prop := fnExactRunStepsRow.holds Try.pinned (OpenSpec.ofChange fnExactRunStepsWrong)

/-- 'laws.FnExactIsMerge': WHATEVER THE INPUT: true; the input reads as it did. -/
def fnExactIsMergeSpec : ChangeSpec := { name := "fnExactIsMerge", fn := fun _ => fun
  | [d1, d2] => { results := [.lit (.bool true)], args := [d1, d2] }
  | _ => none }
def fnExactIsMergeRow : OpenClaim := { program := "yteenopeoblkakaa", sum := "84c7f95d18346a59014f0aef7c334a4bc28cfe7a6ac3fd7249a23ced8f0fe88e", func := "loop.example/g00373/laws.FnExactIsMerge", spec := "fnExactIsMerge", unfollowed := true, recurses := true, apart := false }
def FnExactIsMergeSaid : Prop := fnExactIsMergeRow.holds Try.pinned (OpenSpec.ofChange fnExactIsMergeSpec)

/-- ITS FALSE NEIGHBOUR: 'it returns false'. Refute it at one input. -/
def fnExactIsMergeWrong : ChangeSpec := { name := "fnExactIsMerge", fn := fun _ => fun
  | [d1, d2] => { results := [.lit (.bool false)], args := [d1, d2] }
  | _ => none }
def FnExactIsMergeWrongFalsely : Prop := fnExactIsMergeRow.holds Try.pinned (OpenSpec.ofChange fnExactIsMergeWrong)

/-- 'laws.FnRuns': WHATEVER THE INPUT: true; the input reads as it did. -/
def fnRunsSpec : ChangeSpec := { name := "fnRuns", fn := fun _ => fun
  | [d1, d2] => { results := [.lit (.bool true)], args := [d1, d2] }
  | _ => none }
def fnRunsRow : OpenClaim := { program := "yteenopeoblkakaa", sum := "84c7f95d18346a59014f0aef7c334a4bc28cfe7a6ac3fd7249a23ced8f0fe88e", func := "loop.example/g00373/laws.FnRuns", spec := "fnRuns", unfollowed := true, recurses := true, apart := false }
def FnRunsSaid : Prop := fnRunsRow.holds Try.pinned (OpenSpec.ofChange fnRunsSpec)

/-- ITS FALSE NEIGHBOUR: 'it returns false'. Refute it at one input. -/
def fnRunsWrong : ChangeSpec := { name := "fnRuns", fn := fun _ => fun
  | [d1, d2] => { results := [.lit (.bool false)], args := [d1, d2] }
  | _ => none }
def FnRunsWrongFalsely : Prop := fnRunsRow.holds Try.pinned (OpenSpec.ofChange fnRunsWrong)

/- THE SECOND FORM. 'bulk': how many values and letters a reading holds, each counted each time it is reached (what is shared counts as often as it is met; a slice's spare places count too). A statement '..UptoSaid' is the law's where the arguments, and the package variables that the reading takes, are together of bulk at most 1048576: NARROWER than '..Said'. Prove '..Said' where nothing that the law and all that it calls make is longer than what came in: it says more and counts as full. Else prove '..UptoSaid'. A law counts once. -/
mutual
def uptoBulk {H : Type} : DataW H → Nat
  | .lit (.string bytes) => bytes.length + 1
  | .lit _ => 1
  | .nil => 1
  | .ptr d => uptoBulk d + 1
  | .slice elems spare => uptoBulkAll elems + uptoBulkAll spare + 1
  | .agg parts => uptoBulkAll parts + 1
  | .iface _ d => uptoBulk d + 1
  | .map entries => uptoBulkEntries entries + 1
  | .held _ => 1
def uptoBulkAll {H : Type} : List (DataW H) → Nat
  | [] => 0
  | d :: r => uptoBulk d + uptoBulkAll r
def uptoBulkEntries {H : Type} : List (Lit × DataW H) → Nat
  | [] => 0
  | x :: r => uptoBulkEntry x + uptoBulkEntries r
def uptoBulkEntry {H : Type} : Lit × DataW H → Nat
  | (.string bytes, d) => bytes.length + uptoBulk d + 1
  | (_, d) => uptoBulk d + 1
 end
def uptoSmall : (H : Type) → List (DataW H) → Bool := fun _ ds => decide (uptoBulkAll ds ≤ 1048576)
def OpenSpec.upto (s : _root_.Go.ChangeSpec) : _root_.Go.OpenSpec := { _root_.Go.OpenSpec.ofChange s with cond := some uptoSmall }

/-- 'laws.FnRewrite', WHERE WHAT IT READS IS OF BULK AT MOST 1048576: true; the input reads as it did. -/
def fnRewriteUptoRow : OpenClaim := { program := "yteenopeoblkakaa", sum := "84c7f95d18346a59014f0aef7c334a4bc28cfe7a6ac3fd7249a23ced8f0fe88e", func := "loop.example/g00373/laws.FnRewrite", spec := "fnRewrite", unfollowed := true, recurses := true, apart := false, narrowed := true }
def FnRewriteUptoSaid : Prop := fnRewriteUptoRow.holds Try.pinned (OpenSpec.upto fnRewriteSpec)

/-- 'laws.FnExactRunFlow', WHERE WHAT IT READS IS OF BULK AT MOST 1048576: true; the input reads as it did. -/
def fnExactRunFlowUptoRow : OpenClaim := { program := "yteenopeoblkakaa", sum := "84c7f95d18346a59014f0aef7c334a4bc28cfe7a6ac3fd7249a23ced8f0fe88e", func := "loop.example/g00373/laws.FnExactRunFlow", spec := "fnExactRunFlow", unfollowed := true, recurses := true, apart := false, narrowed := true }
def FnExactRunFlowUptoSaid : Prop := fnExactRunFlowUptoRow.holds Try.pinned (OpenSpec.upto fnExactRunFlowSpec)

/-- 'laws.FnExactSavedBy', WHERE WHAT IT READS IS OF BULK AT MOST 1048576: true; the input reads as it did. -/
def fnExactSavedByUptoRow : OpenClaim := { program := "yteenopeoblkakaa", sum := "84c7f95d18346a59014f0aef7c334a4bc28cfe7a6ac3fd7249a23ced8f0fe88e", func := "loop.example/g00373/laws.FnExactSavedBy", spec := "fnExactSavedBy", unfollowed := true, recurses := true, apart := false, narrowed := true }
def FnExactSavedByUptoSaid : Prop := fnExactSavedByUptoRow.holds Try.pinned (OpenSpec.upto fnExactSavedBySpec)

/-- 'laws.FnExactStackBlock', WHERE WHAT IT READS IS OF BULK AT MOST 1048576: true; the input reads as it did. -/
def fnExactStackBlockUptoRow : OpenClaim := { program := "yteenopeoblkakaa", sum := "84c7f95d18346a59014f0aef7c334a4bc28cfe7a6ac3fd7249a23ced8f0fe88e", func := "loop.example/g00373/laws.FnExactStackBlock", spec := "fnExactStackBlock", unfollowed := true, recurses := true, apart := false, narrowed := true }
def FnExactStackBlockUptoSaid : Prop := fnExactStackBlockUptoRow.holds Try.pinned (OpenSpec.upto fnExactStackBlockSpec)

/-- 'laws.FnExactStepsDone', WHERE WHAT IT READS IS OF BULK AT MOST 1048576: true; the input reads as it did. -/
def fnExactStepsDoneUptoRow : OpenClaim := { program := "yteenopeoblkakaa", sum := "84c7f95d18346a59014f0aef7c334a4bc28cfe7a6ac3fd7249a23ced8f0fe88e", func := "loop.example/g00373/laws.FnExactStepsDone", spec := "fnExactStepsDone", unfollowed := true, recurses := true, apart := false, narrowed := true }
def FnExactStepsDoneUptoSaid : Prop := fnExactStepsDoneUptoRow.holds Try.pinned (OpenSpec.upto fnExactStepsDoneSpec)

/-- 'laws.FnExactCanStruct', WHERE WHAT IT READS IS OF BULK AT MOST 1048576: true; the input reads as it did. -/
def fnExactCanStructUptoRow : OpenClaim := { program := "yteenopeoblkakaa", sum := "84c7f95d18346a59014f0aef7c334a4bc28cfe7a6ac3fd7249a23ced8f0fe88e", func := "loop.example/g00373/laws.FnExactCanStruct", spec := "fnExactCanStruct", unfollowed := true, recurses := true, apart := false, narrowed := true }
def FnExactCanStructUptoSaid : Prop := fnExactCanStructUptoRow.holds Try.pinned (OpenSpec.upto fnExactCanStructSpec)

/-- 'laws.FnExactAlike', WHERE WHAT IT READS IS OF BULK AT MOST 1048576: true; the input reads as it did. -/
def fnExactAlikeUptoRow : OpenClaim := { program := "yteenopeoblkakaa", sum := "84c7f95d18346a59014f0aef7c334a4bc28cfe7a6ac3fd7249a23ced8f0fe88e", func := "loop.example/g00373/laws.FnExactAlike", spec := "fnExactAlike", unfollowed := true, recurses := true, apart := false, narrowed := true }
def FnExactAlikeUptoSaid : Prop := fnExactAlikeUptoRow.holds Try.pinned (OpenSpec.upto fnExactAlikeSpec)

/-- 'laws.FnExactSameRuns', WHERE WHAT IT READS IS OF BULK AT MOST 1048576: true; the input reads as it did. -/
def fnExactSameRunsUptoRow : OpenClaim := { program := "yteenopeoblkakaa", sum := "84c7f95d18346a59014f0aef7c334a4bc28cfe7a6ac3fd7249a23ced8f0fe88e", func := "loop.example/g00373/laws.FnExactSameRuns", spec := "fnExactSameRuns", unfollowed := true, recurses := true, apart := false, narrowed := true }
def FnExactSameRunsUptoSaid : Prop := fnExactSameRunsUptoRow.holds Try.pinned (OpenSpec.upto fnExactSameRunsSpec)

/-- 'laws.FnExactRunSteps', WHERE WHAT IT READS IS OF BULK AT MOST 1048576: true; the input reads as it did. -/
def fnExactRunStepsUptoRow : OpenClaim := { program := "yteenopeoblkakaa", sum := "84c7f95d18346a59014f0aef7c334a4bc28cfe7a6ac3fd7249a23ced8f0fe88e", func := "loop.example/g00373/laws.FnExactRunSteps", spec := "fnExactRunSteps", unfollowed := true, recurses := true, apart := false, narrowed := true }
def FnExactRunStepsUptoSaid : Prop := fnExactRunStepsUptoRow.holds Try.pinned (OpenSpec.upto fnExactRunStepsSpec)

/-- 'laws.FnExactIsMerge', WHERE WHAT IT READS IS OF BULK AT MOST 1048576: true; the input reads as it did. -/
def fnExactIsMergeUptoRow : OpenClaim := { program := "yteenopeoblkakaa", sum := "84c7f95d18346a59014f0aef7c334a4bc28cfe7a6ac3fd7249a23ced8f0fe88e", func := "loop.example/g00373/laws.FnExactIsMerge", spec := "fnExactIsMerge", unfollowed := true, recurses := true, apart := false, narrowed := true }
def FnExactIsMergeUptoSaid : Prop := fnExactIsMergeUptoRow.holds Try.pinned (OpenSpec.upto fnExactIsMergeSpec)

/-- 'laws.FnRuns', WHERE WHAT IT READS IS OF BULK AT MOST 1048576: true; the input reads as it did. -/
def fnRunsUptoRow : OpenClaim := { program := "yteenopeoblkakaa", sum := "84c7f95d18346a59014f0aef7c334a4bc28cfe7a6ac3fd7249a23ced8f0fe88e", func := "loop.example/g00373/laws.FnRuns", spec := "fnRuns", unfollowed := true, recurses := true, apart := false, narrowed := true }
def FnRunsUptoSaid : Prop := fnRunsUptoRow.holds Try.pinned (OpenSpec.upto fnRunsSpec)

end Rows
end Go.Proofs.Yteenopeoblkakaa
