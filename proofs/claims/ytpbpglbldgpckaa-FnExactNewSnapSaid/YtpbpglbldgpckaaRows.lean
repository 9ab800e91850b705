/-
  No cell of these rows narrows 'for every input' (looked for: loops, veiled, ifaces, maps, wideKeys, modest, calm, conditions, laid).
  DERIVED. THE GIVEN ROWS OF THIS SEAT. 15 by the template 'for every input the law returns true; each argument reads behind the call as it read before'; 0 by the template 'total and deterministic' (their statements: YtpbpglbldgpckaaTotals.lean).
  GIVEN WITH THE SEED: the statements are not yours to turn. If you find one false, say at which input.
  Laid BY PROGRAM, IN A SANDBOX (cutbox-rows.mjs): the forced cells as the released guide's own fill.sh prints them over the translation 97eb73c9d8e9ef99… (all of the seat's roots in one cut). By AI agents, Wed Nov 11 2026. No macro, syntax, notation, axiom, sorry.
-/
import Derived.Test.YtpbpglbldgpckaaChecked
import GoSem.Claim
import GoSem.ClaimJoined
import GoSem.ClaimMapViews
import Derived.JoinedTies
import Derived.KernelRfl
namespace Go.Proofs.Ytpbpglbldgpckaa
/- THE CELL 'sum', in the pinned program and in every row, IS THE sha256 OF THE DUMP (.gsa) THAT YtpbpglbldgpckaaProg.lean LOADS. Nothing in Lean hashes anything: it is a label: what it is worth is what the hold of that sum in a sandbox is worth. -/
noncomputable def Try.pinned : Pinned := { name := "ytpbpglbldgpckaa", sum := "97eb73c9d8e9ef99d3bf78b2293a42fd87bdb613e504380751fbf70919207df0", checked := Try.checked }
namespace Rows
def none {H : Type} : Left H := { results := [], args := [] }

/-- 'laws.FnExactSwapSteps': WHATEVER THE INPUT: true; the input reads as it did. -/
def fnExactSwapStepsSpec : ChangeSpec := { name := "fnExactSwapSteps", fn := fun _ => fun
  | [d1, d2] => { results := [.lit (.bool true)], args := [d1, d2] }
  | _ => none }
def fnExactSwapStepsRow : OpenClaim := { program := "ytpbpglbldgpckaa", sum := "97eb73c9d8e9ef99d3bf78b2293a42fd87bdb613e504380751fbf70919207df0", func := "loop.example/g00305/laws.FnExactSwapSteps", spec := "fnExactSwapSteps", unfollowed := true, recurses := true, plainKeys := false, apart := false }
def FnExactSwapStepsSaid : Prop := fnExactSwapStepsRow.holds Try.pinned (OpenSpec.ofChange fnExactSwapStepsSpec)

/-- ITS FALSE NEIGHBOUR: 'it returns false'. Refute it at one input. -/
def fnExactSwapStepsWrong : ChangeSpec := { name := "fnExactSwapSteps", fn := fun _ => fun
  | [d1, d2] => { results := [.lit (.bool false)], args := [d1, d2] }
  | _ => none }
def FnExactSwapStepsWrongFalsely : Prop := fnExactSwapStepsRow.holds Try.pinned (OpenSpec.ofChange fnExactSwapStepsWrong)

/-- 'laws.FnExactNewSink': WHATEVER THE INPUT: true; the input reads as it did. -/
def fnExactNewSinkSpec : ChangeSpec := { name := "fnExactNewSink", fn := fun _ => fun
  | [d] => { results := [.lit (.bool true)], args := [d] }
  | _ => none }
def fnExactNewSinkRow : OpenClaim := { program := "ytpbpglbldgpckaa", sum := "97eb73c9d8e9ef99d3bf78b2293a42fd87bdb613e504380751fbf70919207df0", func := "loop.example/g00305/laws.FnExactNewSink", spec := "fnExactNewSink", plainKeys := false, apart := false }
def FnExactNewSinkSaid : Prop := fnExactNewSinkRow.holds Try.pinned (OpenSpec.ofChange fnExactNewSinkSpec)

/-- ITS FALSE NEIGHBOUR: 'it returns false'. Refute it at one input. -/
def fnExactNewSinkWrong : ChangeSpec := { name := "fnExactNewSink", fn := fun _ => fun
  | [d] => { results := [.lit (.bool false)], args := [d] }
  | _ => none }
def FnExactNewSinkWrongFalsely : Prop := fnExactNewSinkRow.holds Try.pinned (OpenSpec.ofChange fnExactNewSinkWrong)

/-- 'laws.FnExactGoodWindow': WHATEVER THE INPUT: true; the input reads as it did. -/
def fnExactGoodWindowSpec : ChangeSpec := { name := "fnExactGoodWindow", fn := fun _ => fun
  | [d] => { results := [.lit (.bool true)], args := [d] }
  | _ => none }
def fnExactGoodWindowRow : OpenClaim := { program := "ytpbpglbldgpckaa", sum := "97eb73c9d8e9ef99d3bf78b2293a42fd87bdb613e504380751fbf70919207df0", func := "loop.example/g00305/laws.FnExactGoodWindow", spec := "fnExactGoodWindow", unfollowed := true, recurses := true, plainKeys := false, apart := false }
def FnExactGoodWindowSaid : Prop := fnExactGoodWindowRow.holds Try.pinned (OpenSpec.ofChange fnExactGoodWindowSpec)

/-- ITS FALSE NEIGHBOUR: 'it returns false'. Refute it at one input. -/
def fnExactGoodWindowWrong : ChangeSpec := { name := "fnExactGoodWindow", fn := fun _ => fun
  | [d] => { results := [.lit (.bool false)], args := [d] }
  | _ => none }
def FnExactGoodWindowWrongFalsely : Prop := fnExactGoodWindowRow.holds Try.pinned (OpenSpec.ofChange fnExactGoodWindowWrong)

/-- 'laws.FnExactSlideOver': WHATEVER THE INPUT: true; the input reads as it did. -/
def fnExactSlideOverSpec : ChangeSpec := { name := "fnExactSlideOver", fn := fun _ => fun
  | [d1, d2] => { results := [.lit (.bool true)], args := [d1, d2] }
  | _ => none }
def fnExactSlideOverRow : OpenClaim := { program := "ytpbpglbldgpckaa", sum := "97eb73c9d8e9ef99d3bf78b2293a42fd87bdb613e504380751fbf70919207df0", func := "loop.example/g00305/laws.FnExactSlideOver", spec := "fnExactSlideOver", unfollowed := true, recurses := true, plainKeys := false, apart := false }
def FnExactSlideOverSaid : Prop := fnExactSlideOverRow.holds Try.pinned (OpenSpec.ofChange fnExactSlideOverSpec)

/-- ITS FALSE NEIGHBOUR: 'it returns false'. Refute it at one input. -/
def fnExactSlideOverWrong : ChangeSpec := { name := "fnExactSlideOver", fn := fun _ => fun
  | [d1, d2] => { results := [.lit (.bool false)], args := [d1, d2] }
  | _ => none }
def FnExactSlideOverWrongFalsely : Prop := fnExactSlideOverRow.holds Try.pinned (OpenSpec.ofChange fnExactSlideOverWrong)

/-- 'laws.FnExactGoodSink': WHATEVER THE INPUT: true; the input reads as it did. -/
def fnExactGoodSinkSpec : ChangeSpec := { name := "fnExactGoodSink", fn := fun _ => fun
  | [d] => { results := [.lit (.bool true)], args := [d] }
  | _ => none }
def fnExactGoodSinkRow : OpenClaim := { program := "ytpbpglbldgpckaa", sum := "97eb73c9d8e9ef99d3bf78b2293a42fd87bdb613e504380751fbf70919207df0", func := "loop.example/g00305/laws.FnExactGoodSink", spec := "fnExactGoodSink", plainKeys := false, apart := false }
def FnExactGoodSinkSaid : Prop := fnExactGoodSinkRow.holds Try.pinned (OpenSpec.ofChange fnExactGoodSinkSpec)

/-- ITS FALSE NEIGHBOUR: 'it returns false'. Refute it at one input. -/
def fnExactGoodSinkWrong : ChangeSpec := { name := "fnExactGoodSink", fn := fun _ => fun
  | [d] => { results := [.lit (.bool false)], args := [d] }
  | _ => none }
def FnExactGoodSinkWrongFalsely : Prop := fnExactGoodSinkRow.holds Try.pinned (OpenSpec.ofChange fnExactGoodSinkWrong)

/-- 'laws.FnExactWindowSum': WHATEVER THE INPUT: true; the input reads as it did. -/
def fnExactWindowSumSpec : ChangeSpec := { name := "fnExactWindowSum", fn := fun _ => fun
  | [d] => { results := [.lit (.bool true)], args := [d] }
  | _ => none }
def fnExactWindowSumRow : OpenClaim := { program := "ytpbpglbldgpckaa", sum := "97eb73c9d8e9ef99d3bf78b2293a42fd87bdb613e504380751fbf70919207df0", func := "loop.example/g00305/laws.FnExactWindowSum", spec := "fnExactWindowSum", unfollowed := true, recurses := true, plainKeys := false, apart := false }
def FnExactWindowSumSaid : Prop := fnExactWindowSumRow.holds Try.pinned (OpenSpec.ofChange fnExactWindowSumSpec)

/-- ITS FALSE NEIGHBOUR: 'it returns false'. Refute it at one input. -/
def fnExactWindowSumWrong : ChangeSpec := { name := "fnExactWindowSum", fn := fun _ => fun
  | [d] => { results := [.lit (.bool false)], args := [d] }
  | _ => none }
def FnExactWindowSumWrongFalsely : Prop := fnExactWindowSumRow.holds Try.pinned (OpenSpec.ofChange fnExactWindowSumWrong)

/-- 'laws.FnExactItemsIn': WHATEVER THE INPUT: true; the input reads as it did. -/
def fnExactItemsInSpec : ChangeSpec := { name := "fnExactItemsIn", fn := fun _ => fun
  | [d] => { results := [.lit (.bool true)], args := [d] }
  | _ => none }
def fnExactItemsInRow : OpenClaim := { program := "ytpbpglbldgpckaa", sum := "97eb73c9d8e9ef99d3bf78b2293a42fd87bdb613e504380751fbf70919207df0", func := "loop.example/g00305/laws.FnExactItemsIn", spec := "fnExactItemsIn", unfollowed := true, recurses := true, plainKeys := false, apart := false }
def FnExactItemsInSaid : Prop := fnExactItemsInRow.holds Try.pinned (OpenSpec.ofChange fnExactItemsInSpec)

/-- ITS FALSE NEIGHBOUR: 'it returns false'. Refute it at one input. -/
def fnExactItemsInWrong : ChangeSpec := { name := "fnExactItemsIn", fn := fun _ => fun
  | [d] => { results := [.lit (.bool false)], args := [d] }
  | _ => none }
def FnExactItemsInWrongFalsely : Prop := fnExactItemsInRow.holds Try.pinned (OpenSpec.ofChange fnExactItemsInWrong)

/-- 'laws.FnExactGoodSnap': WHATEVER THE INPUT: true; the input reads as it did. -/
def fnExactGoodSnapSpec : ChangeSpec := { name := "fnExactGoodSnap", fn := fun _ => fun
  | [d] => { results := [.lit (.bool true)], args := [d] }
  | _ => none }
def fnExactGoodSnapRow : OpenClaim := { program := "ytpbpglbldgpckaa", sum := "97eb73c9d8e9ef99d3bf78b2293a42fd87bdb613e504380751fbf70919207df0", func := "loop.example/g00305/laws.FnExactGoodSnap", spec := "fnExactGoodSnap", unfollowed := true, recurses := true, plainKeys := false, apart := false }
def FnExactGoodSnapSaid : Prop := fnExactGoodSnapRow.holds Try.pinned (OpenSpec.ofChange fnExactGoodSnapSpec)

/-- ITS FALSE NEIGHBOUR: 'it returns false'. Refute it at one input. -/
def fnExactGoodSnapWrong : ChangeSpec := { name := "fnExactGoodSnap", fn := fun _ => fun
  | [d] => { results := [.lit (.bool false)], args := [d] }
  | _ => none }
def FnExactGoodSnapWrongFalsely : Prop := fnExactGoodSnapRow.holds Try.pinned (OpenSpec.ofChange fnExactGoodSnapWrong)

/-- 'laws.FnExactOutOf': WHATEVER THE INPUT: true; the input reads as it did. -/
def fnExactOutOfSpec : ChangeSpec := { name := "fnExactOutOf", fn := fun _ => fun
  | [d] => { results := [.lit (.bool true)], args := [d] }
  | _ => none }
def fnExactOutOfRow : OpenClaim := { program := "ytpbpglbldgpckaa", sum := "97eb73c9d8e9ef99d3bf78b2293a42fd87bdb613e504380751fbf70919207df0", func := "loop.example/g00305/laws.FnExactOutOf", spec := "fnExactOutOf", plainKeys := false, apart := false }
def FnExactOutOfSaid : Prop := fnExactOutOfRow.holds Try.pinned (OpenSpec.ofChange fnExactOutOfSpec)

/-- ITS FALSE NEIGHBOUR: 'it returns false'. Refute it at one input. -/
def fnExactOutOfWrong : ChangeSpec := { name := "fnExactOutOf", fn := fun _ => fun
  | [d] => { results := [.lit (.bool false)], args := [d] }
  | _ => none }
def FnExactOutOfWrongFalsely : Prop := fnExactOutOfRow.holds Try.pinned (OpenSpec.ofChange fnExactOutOfWrong)

/-- 'laws.FnExactReadsFrom': WHATEVER THE INPUT: true; the input reads as it did. -/
def fnExactReadsFromSpec : ChangeSpec := { name := "fnExactReadsFrom", fn := fun _ => fun
  | [d] => { results := [.lit (.bool true)], args := [d] }
  | _ => none }
def fnExactReadsFromRow : OpenClaim := { program := "ytpbpglbldgpckaa", sum := "97eb73c9d8e9ef99d3bf78b2293a42fd87bdb613e504380751fbf70919207df0", func := "loop.example/g00305/laws.FnExactReadsFrom", spec := "fnExactReadsFrom", unfollowed := true, recurses := true, plainKeys := false, apart := false }
def FnExactReadsFromSaid : Prop := fnExactReadsFromRow.holds Try.pinned (OpenSpec.ofChange fnExactReadsFromSpec)

/-- ITS FALSE NEIGHBOUR: 'it returns false'. Refute it at one input. -/
def fnExactReadsFromWrong : ChangeSpec := { name := "fnExactReadsFrom", fn := fun _ => fun
  | [d] => { results := [.lit (.bool false)], args := [d] }
  | _ => none }
def FnExactReadsFromWrongFalsely : Prop := fnExactReadsFromRow.holds Try.pinned (OpenSpec.ofChange fnExactReadsFromWrong)

/-- 'laws.FnExactPushMap': WHATEVER THE INPUT: true; the input reads as it did. -/
def fnExactPushMapSpec : ChangeSpec := { name := "fnExactPushMap", fn := fun _ => fun
  | [d1, d2] => { results := [.lit (.bool true)], args := [d1, d2] }
  | _ => none }
def fnExactPushMapRow : OpenClaim := { program := "ytpbpglbldgpckaa", sum := "97eb73c9d8e9ef99d3bf78b2293a42fd87bdb613e504380751fbf70919207df0", func := "loop.example/g00305/laws.FnExactPushMap", spec := "fnExactPushMap", unfollowed := true, recurses := true, plainKeys := false, apart := false }
def FnExactPushMapSaid : Prop := fnExactPushMapRow.holds Try.pinned (OpenSpec.ofChange fnExactPushMapSpec)

/-- ITS FALSE NEIGHBOUR: 'it returns false'. Refute it at one input. -/
def fnExactPushMapWrong : ChangeSpec := { name := "fnExactPushMap", fn := fun _ => fun
  | [d1, d2] => { results := [.lit (.bool false)], args := [d1, d2] }
  | _ => none }
def FnExactPushMapWrongFalsely : Prop := fnExactPushMapRow.holds Try.pinned (OpenSpec.ofChange fnExactPushMapWrong)

/-- 'laws.FnExactTotalIn': WHATEVER THE INPUT: true; the input reads as it did. -/
def fnExactTotalInSpec : ChangeSpec := { name := "fnExactTotalIn", fn := fun _ => fun
  | [d] => { results := [.lit (.bool true)], args := [d] }
  | _ => none }
def fnExactTotalInRow : OpenClaim := { program := "ytpbpglbldgpckaa", sum := "97eb73c9d8e9ef99d3bf78b2293a42fd87bdb613e504380751fbf70919207df0", func := "loop.example/g00305/laws.FnExactTotalIn", spec := "fnExactTotalIn", unfollowed := true, recurses := true, plainKeys := false, apart := false }
def FnExactTotalInSaid : Prop := fnExactTotalInRow.holds Try.pinned (OpenSpec.ofChange fnExactTotalInSpec)

/-- ITS FALSE NEIGHBOUR: 'it returns false'. Refute it at one input. -/
def fnExactTotalInWrong : ChangeSpec := { name := "fnExactTotalIn", fn := fun _ => fun
  | [d] => { results := [.lit (.bool false)], args := [d] }
  | _ => none }
def FnExactTotalInWrongFalsely : Prop := fnExactTotalInRow.holds Try.pinned (OpenSpec.ofChange fnExactTotalInWrong)

/-- 'laws.FnExactSameRuns': WHATEVER THE INPUT: true; the input reads as it did. -/
def fnExactSameRunsSpec : ChangeSpec := { name := "fnExactSameRuns", fn := fun _ => fun
  | [d1, d2] => { results := [.lit (.bool true)], args := [d1, d2] }
  | _ => none }
def fnExactSameRunsRow : OpenClaim := { program := "ytpbpglbldgpckaa", sum := "97eb73c9d8e9ef99d3bf78b2293a42fd87bdb613e504380751fbf70919207df0", func := "loop.example/g00305/laws.FnExactSameRuns", spec := "fnExactSameRuns", unfollowed := true, recurses := true, plainKeys := false, apart := false }
def FnExactSameRunsSaid : Prop := fnExactSameRunsRow.holds Try.pinned (OpenSpec.ofChange fnExactSameRunsSpec)

/-- ITS FALSE NEIGHBOUR: 'it returns false'. Refute it at one input. -/
def fnExactSameRunsWrong : ChangeSpec := { name := "fnExactSameRuns", fn := fun _ => fun
  | [d1, d2] => { results := [.lit (.bool false)], args := [d1, d2] }
  | _ => none }
def FnExactSameRunsWrongFalsely : Prop := fnExactSameRunsRow.holds Try.pinned (OpenSpec.ofChange fnExactSameRunsWrong)

/-- 'laws.FnExactNewSnap': WHATEVER THE INPUT: true; the input reads as it did. -/
def fnExactNewSnapSpec : ChangeSpec := { name := "fnExactNewSnap", fn := fun _ => fun
  | [d] => { results := [.lit (.bool true)], args := [d] }
  | _ => none }
def fnExactNewSnapRow : OpenClaim := { program := "ytpbpglbldgpckaa", sum := "97eb73c9d8e9ef99d3bf78b2293a42fd87bdb613e504380751fbf70919207df0", func := "loop.example/g00305/laws.FnExactNewSnap", spec := "fnExactNewSnap", unfollowed := true, recurses := true, plainKeys := false, apart := false }
def FnExactNewSnapSaid : Prop := fnExactNewSnapRow.holds Try.pinned (OpenSpec.ofChange fnExactNewSnapSpec)

/-- ITS FALSE NEIGHBOUR: 'it returns false'. Refute it at one input. -/
def fnExactNewSnapWrong : ChangeSpec := { name := "fnExactNewSnap", fn := fun _ => fun
  | [d] => { results := [.lit (.bool false)], args := [d] }
  | _ => none }
def FnExactNewSnapWrongFalsely : Prop := fnExactNewSnapRow.holds Try.pinned (OpenSpec.ofChange fnExactNewSnapWrong)

/-- 'laws.FnExactPictureOf': WHATEVER THE INPUT: true; the input reads as it did. -/
def fnExactPictureOfSpec : ChangeSpec := { name := "fnExactPictureOf", fn := fun _ => fun
  | [d] => { results := [.lit (.bool true)], args := [d] }
  | _ => none }
def fnExactPictureOfRow : OpenClaim := { program := "ytpbpglbldgpckaa", sum := "97eb73c9d8e9ef99d3bf78b2293a42fd87bdb613e504380751fbf70919207df0", func := "loop.example/g00305/laws.FnExactPictureOf", spec := "fnExactPictureOf", unfollowed := true, recurses := true, plainKeys := false, apart := false }
def FnExactPictureOfSaid : Prop := fnExactPictureOfRow.holds Try.pinned (OpenSpec.ofChange fnExactPictureOfSpec)

/-- ITS FALSE NEIGHBOUR: 'it returns false'. Refute it at one input. -/
def fnExactPictureOfWrong : ChangeSpec := { name := "fnExactPictureOf", fn := fun _ => fun
  | [d] => { results := [.lit (.bool false)], args := [d] }
  | _ => none }
def FnExactPictureOfWrongFalsely : Prop := fnExactPictureOfRow.holds Try.pinned (OpenSpec.ofChange fnExactPictureOfWrong)

/- THE SECOND FORM. 'bulk': how many values and letters a reading holds, each counted each time it is reached (what is shared counts as often as it is met; a slice's spare places count too). A statement '..UptoSaid' is the law's where the arguments, and the package variables that the reading takes, are together of bulk at most 1048576: NARROWER than '..Said'. Prove '..Said' where nothing that the law and all that it calls make is longer than what came in: it says more and counts as full. Else prove '..UptoSaid'. A law counts once. -/
mutual
def uptoBulk {H : Type} : DataW H → Nat
  | .lit (.string bytes) => bytes.length + 1
  | .lit _ => 1
  | .nil => 1
  | .ptr d => uptoBulk d + 1
  | .slice elems spare => uptoBulkAll elems + uptoBulkAll spare + 1
  | .agg parts => uptoBulkAll parts + 1
  | .iface _ d => uptoBulk d + 1
  | .map entries => uptoBulkEntries entries + 1
  | .held _ => 1
def uptoBulkAll {H : Type} : List (DataW H) → Nat
  | [] => 0
  | d :: r => uptoBulk d + uptoBulkAll r
def uptoBulkEntries {H : Type} : List (Lit × DataW H) → Nat
  | [] => 0
  | x :: r => uptoBulkEntry x + uptoBulkEntries r
def uptoBulkEntry {H : Type} : Lit × DataW H → Nat
  | (.string bytes, d) => bytes.length + uptoBulk d + 1
  | (_, d) => uptoBulk d + 1
 end
def uptoSmall : (H : Type) → List (DataW H) → Bool := fun _ ds => decide (uptoBulkAll ds ≤ 1048576)
def OpenSpec.upto (s : _root_.Go.ChangeSpec) : _root_.Go.OpenSpec := { _root_.Go.OpenSpec.ofChange s with cond := some uptoSmall }

/-- 'laws.FnExactSwapSteps', WHERE WHAT IT READS IS OF BULK AT MOST 1048576: true; the input reads as it did. -/
def fnExactSwapStepsUptoRow : OpenClaim := { program := "ytpbpglbldgpckaa", sum := "97eb73c9d8e9ef99d3bf78b2293a42fd87bdb613e504380751fbf70919207df0", func := "loop.example/g00305/laws.FnExactSwapSteps", spec := "fnExactSwapSteps", unfollowed := true, recurses := true, plainKeys := false, apart := false, narrowed := true }
def FnExactSwapStepsUptoSaid : Prop := fnExactSwapStepsUptoRow.holds Try.pinned (OpenSpec.upto fnExactSwapStepsSpec)

/-- 'laws.FnExactNewSink', WHERE WHAT IT READS IS OF BULK AT MOST 1048576: true; the input reads as it did. -/
def fnExactNewSinkUptoRow : OpenClaim := { program := "ytpbpglbldgpckaa", sum := "97eb73c9d8e9ef99d3bf78b2293a42fd87bdb613e504380751fbf70919207df0", func := "loop.example/g00305/laws.FnExactNewSink", spec := "fnExactNewSink", plainKeys := false, apart := false, narrowed := true }
def FnExactNewSinkUptoSaid : Prop := fnExactNewSinkUptoRow.holds Try.pinned (OpenSpec.upto fnExactNewSinkSpec)

/-- 'laws.FnExactGoodWindow', WHERE WHAT IT READS IS OF BULK AT MOST 1048576: true; the input reads as it did. -/
def fnExactGoodWindowUptoRow : OpenClaim := { program := "ytpbpglbldgpckaa", sum := "97eb73c9d8e9ef99d3bf78b2293a42fd87bdb613e504380751fbf70919207df0", func := "loop.example/g00305/laws.FnExactGoodWindow", spec := "fnExactGoodWindow", unfollowed := true, recurses := true, plainKeys := false, apart := false, narrowed := true }
def FnExactGoodWindowUptoSaid : Prop := fnExactGoodWindowUptoRow.holds Try.pinned (OpenSpec.upto fnExactGoodWindowSpec)

/-- 'laws.FnExactSlideOver', WHERE WHAT IT READS IS OF BULK AT MOST 1048576: true; the input reads as it did. -/
def fnExactSlideOverUptoRow : OpenClaim := { program := "ytpbpglbldgpckaa", sum := "97eb73c9d8e9ef99d3bf78b2293a42fd87bdb613e504380751fbf70919207df0", func := "loop.example/g00305/laws.FnExactSlideOver", spec := "fnExactSlideOver", unfollowed := true, recurses := true, plainKeys := false, apart := false, narrowed := true }
def FnExactSlideOverUptoSaid : Prop := fnExactSlideOverUptoRow.holds Try.pinned (OpenSpec.upto fnExactSlideOverSpec)

/-- 'laws.FnExactGoodSink', WHERE WHAT IT READS IS OF BULK AT MOST 1048576: true; the input reads as it did. -/
def fnExactGoodSinkUptoRow : OpenClaim := { program := "ytpbpglbldgpckaa", sum := "97eb73c9d8e9ef99d3bf78b2293a42fd87bdb613e504380751fbf70919207df0", func := "loop.example/g00305/laws.FnExactGoodSink", spec := "fnExactGoodSink", plainKeys := false, apart := false, narrowed := true }
def FnExactGoodSinkUptoSaid : Prop := fnExactGoodSinkUptoRow.holds Try.pinned (OpenSpec.upto fnExactGoodSinkSpec)

/-- 'laws.FnExactWindowSum', WHERE WHAT IT READS IS OF BULK AT MOST 1048576: true; the input reads as it did. -/
def fnExactWindowSumUptoRow : OpenClaim := { program := "ytpbpglbldgpckaa", sum := "97eb73c9d8e9ef99d3bf78b2293a42fd87bdb613e504380751fbf70919207df0", func := "loop.example/g00305/laws.FnExactWindowSum", spec := "fnExactWindowSum", unfollowed := true, recurses := true, plainKeys := false, apart := false, narrowed := true }
def FnExactWindowSumUptoSaid : Prop := fnExactWindowSumUptoRow.holds Try.pinned (OpenSpec.upto fnExactWindowSumSpec)

/-- 'laws.FnExactItemsIn', WHERE WHAT IT READS IS OF BULK AT MOST 1048576: true; the input reads as it did. -/
def fnExactItemsInUptoRow : OpenClaim := { program := "ytpbpglbldgpckaa", sum := "97eb73c9d8e9ef99d3bf78b2293a42fd87bdb613e504380751fbf70919207df0", func := "loop.example/g00305/laws.FnExactItemsIn", spec := "fnExactItemsIn", unfollowed := true, recurses := true, plainKeys := false, apart := false, narrowed := true }
def FnExactItemsInUptoSaid : Prop := fnExactItemsInUptoRow.holds Try.pinned (OpenSpec.upto fnExactItemsInSpec)

/-- 'laws.FnExactGoodSnap', WHERE WHAT IT READS IS OF BULK AT MOST 1048576: true; the input reads as it did. -/
def fnExactGoodSnapUptoRow : OpenClaim := { program := "ytpbpglbldgpckaa", sum := "97eb73c9d8e9ef99d3bf78b2293a42fd87bdb613e504380751fbf70919207df0", func := "loop.example/g00305/laws.FnExactGoodSnap", spec := "fnExactGoodSnap", unfollowed := true, recurses := true, plainKeys := false, apart := false, narrowed := true }
def FnExactGoodSnapUptoSaid : Prop := fnExactGoodSnapUptoRow.holds Try.pinned (OpenSpec.upto fnExactGoodSnapSpec)

/-- 'laws.FnExactOutOf', WHERE WHAT IT READS IS OF BULK AT MOST 1048576: true; the input reads as it did. -/
def fnExactOutOfUptoRow : OpenClaim := { program := "ytpbpglbldgpckaa", sum := "97eb73c9d8e9ef99d3bf78b2293a42fd87bdb613e504380751fbf70919207df0", func := "loop.example/g00305/laws.FnExactOutOf", spec := "fnExactOutOf", plainKeys := false, apart := false, narrowed := true }
def FnExactOutOfUptoSaid : Prop := fnExactOutOfUptoRow.holds Try.pinned (OpenSpec.upto fnExactOutOfSpec)

/-- 'laws.FnExactReadsFrom', WHERE WHAT IT READS IS OF BULK AT MOST 1048576: true; the input reads as it did. -/
def fnExactReadsFromUptoRow : OpenClaim := { program := "ytpbpglbldgpckaa", sum := "97eb73c9d8e9ef99d3bf78b2293a42fd87bdb613e504380751fbf70919207df0", func := "loop.example/g00305/laws.FnExactReadsFrom", spec := "fnExactReadsFrom", unfollowed := true, recurses := true, plainKeys := false, apart := false, narrowed := true }
def FnExactReadsFromUptoSaid : Prop := fnExactReadsFromUptoRow.holds Try.pinned (OpenSpec.upto fnExactReadsFromSpec)

/-- 'laws.FnExactPushMap', WHERE WHAT IT READS IS OF BULK AT MOST 1048576: true; the input reads as it did. -/
def fnExactPushMapUptoRow : OpenClaim := { program := "ytpbpglbldgpckaa", sum := "97eb73c9d8e9ef99d3bf78b2293a42fd87bdb613e504380751fbf70919207df0", func := "loop.example/g00305/laws.FnExactPushMap", spec := "fnExactPushMap", unfollowed := true, recurses := true, plainKeys := false, apart := false, narrowed := true }
def FnExactPushMapUptoSaid : Prop := fnExactPushMapUptoRow.holds Try.pinned (OpenSpec.upto fnExactPushMapSpec)

/-- 'laws.FnExactTotalIn', WHERE WHAT IT READS IS OF BULK AT MOST 1048576: true; the input reads as it did. -/
def fnExactTotalInUptoRow : OpenClaim := { program := "ytpbpglbldgpckaa", sum := "97eb73c9d8e9ef99d3bf78b2293a42fd87bdb613e504380751fbf70919207df0", func := "loop.example/g00305/laws.FnExactTotalIn", spec := "fnExactTotalIn", unfollowed := true, recurses := true, plainKeys := false, apart := false, narrowed := true }
def FnExactTotalInUptoSaid : Prop := fnExactTotalInUptoRow.holds Try.pinned (OpenSpec.upto fnExactTotalInSpec)

/-- 'laws.FnExactSameRuns', WHERE WHAT IT READS IS OF BULK AT MOST 1048576: true; the input reads as it did. -/
def fnExactSameRunsUptoRow : OpenClaim := { program := "ytpbpglbldgpckaa", sum := "97eb73c9d8e9ef99d3bf78b2293a42fd87bdb613e504380751fbf70919207df0", func := "loop.example/g00305/laws.FnExactSameRuns", spec := "fnExactSameRuns", unfollowed := true, recurses := true, plainKeys := false, apart := false, narrowed := true }
def FnExactSameRunsUptoSaid : Prop := fnExactSameRunsUptoRow.holds Try.pinned (OpenSpec.upto fnExactSameRunsSpec)

/-- 'laws.FnExactNewSnap', WHERE WHAT IT READS IS OF BULK AT MOST 1048576: true; the input reads as it did. -/
def fnExactNewSnapUptoRow : OpenClaim := { program := "ytpbpglbldgpckaa", sum := "97eb73c9d8e9ef99d3bf78b2293a42fd87bdb613e504380751fbf70919207df0", func := "loop.example/g00305/laws.FnExactNewSnap", spec := "fnExactNewSnap", unfollowed := true, recurses := true, plainKeys := false, apart := false, narrowed := true }
def FnExactNewSnapUptoSaid : Prop := fnExactNewSnapUptoRow.holds Try.pinned (OpenSpec.upto fnExactNewSnapSpec)

/-- 'laws.FnExactPictureOf', WHERE WHAT IT READS IS OF BULK AT MOST 1048576: true; the input reads as it did. -/
def fnExactPictureOfUptoRow : OpenClaim := { program := "ytpbpglbldgpckaa", sum := "97eb73c9d8e9ef99d3bf78b2293a42fd87bdb613e504380751fbf70919207df0", func := "loop.example/g00305/laws.FnExactPictureOf", spec := "fnExactPictureOf", unfollowed := true, recurses := true, plainKeys := false, apart := false, narrowed := true }
def FnExactPictureOfUptoSaid : Prop := fnExactPictureOfUptoRow.holds Try.pinned (OpenSpec.upto fnExactPictureOfSpec)

end Rows
end Go.Proofs.Ytpbpglbldgpckaa
