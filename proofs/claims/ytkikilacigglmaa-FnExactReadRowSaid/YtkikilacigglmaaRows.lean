/-
  No cell of these rows narrows 'for every input' (looked for: loops, veiled, ifaces, maps, wideKeys, modest, calm, conditions, laid).
  DERIVED. THE GIVEN ROWS OF THIS SEAT. 12 by the template 'for every input the law returns true; each argument reads behind the call as it read before'; 0 by the template 'total and deterministic' (their statements: YtkikilacigglmaaTotals.lean).
  GIVEN WITH THE SEED: the statements are not yours to turn. If you find one false, say at which input.
  Laid BY PROGRAM, IN A SANDBOX (cutbox-rows.mjs): the forced cells as the released guide's own fill.sh prints them over the translation a832033cf5c795fe… (all of the seat's roots in one cut). By AI agents, Wed Nov 11 2026. No macro, syntax, notation, axiom, sorry.
-/
import Derived.Test.YtkikilacigglmaaChecked
import GoSem.Claim
import GoSem.ClaimJoined
import GoSem.ClaimMapViews
import Derived.JoinedTies
import Derived.KernelRfl
namespace Go.Proofs.Ytkikilacigglmaa
/- THE CELL 'sum', in the pinned program and in every row, IS THE sha256 OF THE DUMP (.gsa) THAT YtkikilacigglmaaProg.lean LOADS. Nothing in Lean hashes anything: it is a label: what it is worth is what the hold of that sum in a sandbox is worth. -/
noncomputable def Try.pinned : Pinned := { name := "ytkikilacigglmaa", sum := "a832033cf5c795fef052be2f785a1638e0056a26b67ae6ad8d28fbedc560a40b", checked := Try.checked }
namespace Rows
def none {H : Type} : Left H := { results := [], args := [] }

/-- 'laws.FnExactConstants': WHATEVER THE INPUT: true; the input reads as it did. -/
def fnExactConstantsSpec : ChangeSpec := { name := "fnExactConstants", fn := fun _ => fun
  | [] => { results := [.lit (.bool true)], args := [] }
  | _ => none }
def fnExactConstantsRow : OpenClaim := { program := "ytkikilacigglmaa", sum := "a832033cf5c795fef052be2f785a1638e0056a26b67ae6ad8d28fbedc560a40b", func := "loop.example/g00305/laws.FnExactConstants", spec := "fnExactConstants", apart := false }
def FnExactConstantsSaid : Prop := fnExactConstantsRow.holds Try.pinned (OpenSpec.ofChange fnExactConstantsSpec)

/-- ITS FALSE NEIGHBOUR: 'it returns false'. Refute it at one input. -/
def fnExactConstantsWrong : ChangeSpec := { name := "fnExactConstants", fn := fun _ => fun
  | [] => { results := [.lit (.bool false)], args := [] }
  | _ => none }
def FnExactConstantsWrongFalsely : Prop := fnExactConstantsRow.holds Try.pinned (OpenSpec.ofChange fnExactConstantsWrong)

/-- 'laws.FnExactGoodMap': WHATEVER THE INPUT: true; the input reads as it did. -/
def fnExactGoodMapSpec : ChangeSpec := { name := "fnExactGoodMap", fn := fun _ => fun
  | [d] => { results := [.lit (.bool true)], args := [d] }
  | _ => none }
def fnExactGoodMapRow : OpenClaim := { program := "ytkikilacigglmaa", sum := "a832033cf5c795fef052be2f785a1638e0056a26b67ae6ad8d28fbedc560a40b", func := "loop.example/g00305/laws.FnExactGoodMap", spec := "fnExactGoodMap", apart := false }
def FnExactGoodMapSaid : Prop := fnExactGoodMapRow.holds Try.pinned (OpenSpec.ofChange fnExactGoodMapSpec)

/-- ITS FALSE NEIGHBOUR: 'it returns false'. Refute it at one input. -/
def fnExactGoodMapWrong : ChangeSpec := { name := "fnExactGoodMap", fn := fun _ => fun
  | [d] => { results := [.lit (.bool false)], args := [d] }
  | _ => none }
def FnExactGoodMapWrongFalsely : Prop := fnExactGoodMapRow.holds Try.pinned (OpenSpec.ofChange fnExactGoodMapWrong)

/-- 'laws.FnExactApplyMap': WHATEVER THE INPUT: true; the input reads as it did. -/
def fnExactApplyMapSpec : ChangeSpec := { name := "fnExactApplyMap", fn := fun _ => fun
  | [d1, d2] => { results := [.lit (.bool true)], args := [d1, d2] }
  | _ => none }
def fnExactApplyMapRow : OpenClaim := { program := "ytkikilacigglmaa", sum := "a832033cf5c795fef052be2f785a1638e0056a26b67ae6ad8d28fbedc560a40b", func := "loop.example/g00305/laws.FnExactApplyMap", spec := "fnExactApplyMap", apart := false }
def FnExactApplyMapSaid : Prop := fnExactApplyMapRow.holds Try.pinned (OpenSpec.ofChange fnExactApplyMapSpec)

/-- ITS FALSE NEIGHBOUR: 'it returns false'. Refute it at one input. -/
def fnExactApplyMapWrong : ChangeSpec := { name := "fnExactApplyMap", fn := fun _ => fun
  | [d1, d2] => { results := [.lit (.bool false)], args := [d1, d2] }
  | _ => none }
def FnExactApplyMapWrongFalsely : Prop := fnExactApplyMapRow.holds Try.pinned (OpenSpec.ofChange fnExactApplyMapWrong)

/-- 'laws.FnExactComposeMaps': WHATEVER THE INPUT: true; the input reads as it did. -/
def fnExactComposeMapsSpec : ChangeSpec := { name := "fnExactComposeMaps", fn := fun _ => fun
  | [d1, d2] => { results := [.lit (.bool true)], args := [d1, d2] }
  | _ => none }
def fnExactComposeMapsRow : OpenClaim := { program := "ytkikilacigglmaa", sum := "a832033cf5c795fef052be2f785a1638e0056a26b67ae6ad8d28fbedc560a40b", func := "loop.example/g00305/laws.FnExactComposeMaps", spec := "fnExactComposeMaps", apart := false }
def FnExactComposeMapsSaid : Prop := fnExactComposeMapsRow.holds Try.pinned (OpenSpec.ofChange fnExactComposeMapsSpec)

/-- ITS FALSE NEIGHBOUR: 'it returns false'. Refute it at one input. -/
def fnExactComposeMapsWrong : ChangeSpec := { name := "fnExactComposeMaps", fn := fun _ => fun
  | [d1, d2] => { results := [.lit (.bool false)], args := [d1, d2] }
  | _ => none }
def FnExactComposeMapsWrongFalsely : Prop := fnExactComposeMapsRow.holds Try.pinned (OpenSpec.ofChange fnExactComposeMapsWrong)

/-- 'laws.FnExactGoodRow': WHATEVER THE INPUT: true; the input reads as it did. -/
def fnExactGoodRowSpec : ChangeSpec := { name := "fnExactGoodRow", fn := fun _ => fun
  | [d] => { results := [.lit (.bool true)], args := [d] }
  | _ => none }
def fnExactGoodRowRow : OpenClaim := { program := "ytkikilacigglmaa", sum := "a832033cf5c795fef052be2f785a1638e0056a26b67ae6ad8d28fbedc560a40b", func := "loop.example/g00305/laws.FnExactGoodRow", spec := "fnExactGoodRow", unfollowed := true, recurses := true, apart := false }
def FnExactGoodRowSaid : Prop := fnExactGoodRowRow.holds Try.pinned (OpenSpec.ofChange fnExactGoodRowSpec)

/-- ITS FALSE NEIGHBOUR: 'it returns false'. Refute it at one input. -/
def fnExactGoodRowWrong : ChangeSpec := { name := "fnExactGoodRow", fn := fun _ => fun
  | [d] => { results := [.lit (.bool false)], args := [d] }
  | _ => none }
def FnExactGoodRowWrongFalsely : Prop := fnExactGoodRowRow.holds Try.pinned (OpenSpec.ofChange fnExactGoodRowWrong)

/-- 'laws.FnExactGoodSteps': WHATEVER THE INPUT: true; the input reads as it did. -/
def fnExactGoodStepsSpec : ChangeSpec := { name := "fnExactGoodSteps", fn := fun _ => fun
  | [d] => { results := [.lit (.bool true)], args := [d] }
  | _ => none }
def fnExactGoodStepsRow : OpenClaim := { program := "ytkikilacigglmaa", sum := "a832033cf5c795fef052be2f785a1638e0056a26b67ae6ad8d28fbedc560a40b", func := "loop.example/g00305/laws.FnExactGoodSteps", spec := "fnExactGoodSteps", unfollowed := true, recurses := true, apart := false }
def FnExactGoodStepsSaid : Prop := fnExactGoodStepsRow.holds Try.pinned (OpenSpec.ofChange fnExactGoodStepsSpec)

/-- ITS FALSE NEIGHBOUR: 'it returns false'. Refute it at one input. -/
def fnExactGoodStepsWrong : ChangeSpec := { name := "fnExactGoodSteps", fn := fun _ => fun
  | [d] => { results := [.lit (.bool false)], args := [d] }
  | _ => none }
def FnExactGoodStepsWrongFalsely : Prop := fnExactGoodStepsRow.holds Try.pinned (OpenSpec.ofChange fnExactGoodStepsWrong)

/-- 'laws.FnExactIsLinear': WHATEVER THE INPUT: true; the input reads as it did. -/
def fnExactIsLinearSpec : ChangeSpec := { name := "fnExactIsLinear", fn := fun _ => fun
  | [d] => { results := [.lit (.bool true)], args := [d] }
  | _ => none }
def fnExactIsLinearRow : OpenClaim := { program := "ytkikilacigglmaa", sum := "a832033cf5c795fef052be2f785a1638e0056a26b67ae6ad8d28fbedc560a40b", func := "loop.example/g00305/laws.FnExactIsLinear", spec := "fnExactIsLinear", unfollowed := true, recurses := true, apart := false }
def FnExactIsLinearSaid : Prop := fnExactIsLinearRow.holds Try.pinned (OpenSpec.ofChange fnExactIsLinearSpec)

/-- ITS FALSE NEIGHBOUR: 'it returns false'. Refute it at one input. -/
def fnExactIsLinearWrong : ChangeSpec := { name := "fnExactIsLinear", fn := fun _ => fun
  | [d] => { results := [.lit (.bool false)], args := [d] }
  | _ => none }
def FnExactIsLinearWrongFalsely : Prop := fnExactIsLinearRow.holds Try.pinned (OpenSpec.ofChange fnExactIsLinearWrong)

/-- 'laws.FnExactNewWindow': WHATEVER THE INPUT: true; the input reads as it did. -/
def fnExactNewWindowSpec : ChangeSpec := { name := "fnExactNewWindow", fn := fun _ => fun
  | [] => { results := [.lit (.bool true)], args := [] }
  | _ => none }
def fnExactNewWindowRow : OpenClaim := { program := "ytkikilacigglmaa", sum := "a832033cf5c795fef052be2f785a1638e0056a26b67ae6ad8d28fbedc560a40b", func := "loop.example/g00305/laws.FnExactNewWindow", spec := "fnExactNewWindow", apart := false }
def FnExactNewWindowSaid : Prop := fnExactNewWindowRow.holds Try.pinned (OpenSpec.ofChange fnExactNewWindowSpec)

/-- ITS FALSE NEIGHBOUR: 'it returns false'. Refute it at one input. -/
def fnExactNewWindowWrong : ChangeSpec := { name := "fnExactNewWindow", fn := fun _ => fun
  | [] => { results := [.lit (.bool false)], args := [] }
  | _ => none }
def FnExactNewWindowWrongFalsely : Prop := fnExactNewWindowRow.holds Try.pinned (OpenSpec.ofChange fnExactNewWindowWrong)

/-- 'laws.FnExactGoodTests': WHATEVER THE INPUT: true; the input reads as it did. -/
def fnExactGoodTestsSpec : ChangeSpec := { name := "fnExactGoodTests", fn := fun _ => fun
  | [d1, d2] => { results := [.lit (.bool true)], args := [d1, d2] }
  | _ => none }
def fnExactGoodTestsRow : OpenClaim := { program := "ytkikilacigglmaa", sum := "a832033cf5c795fef052be2f785a1638e0056a26b67ae6ad8d28fbedc560a40b", func := "loop.example/g00305/laws.FnExactGoodTests", spec := "fnExactGoodTests", unfollowed := true, recurses := true, apart := false }
def FnExactGoodTestsSaid : Prop := fnExactGoodTestsRow.holds Try.pinned (OpenSpec.ofChange fnExactGoodTestsSpec)

/-- ITS FALSE NEIGHBOUR: 'it returns false'. Refute it at one input. -/
def fnExactGoodTestsWrong : ChangeSpec := { name := "fnExactGoodTests", fn := fun _ => fun
  | [d1, d2] => { results := [.lit (.bool false)], args := [d1, d2] }
  | _ => none }
def FnExactGoodTestsWrongFalsely : Prop := fnExactGoodTestsRow.holds Try.pinned (OpenSpec.ofChange fnExactGoodTestsWrong)

/-- 'laws.FnExactRowBytes': WHATEVER THE INPUT: true; the input reads as it did. -/
def fnExactRowBytesSpec : ChangeSpec := { name := "fnExactRowBytes", fn := fun _ => fun
  | [d] => { results := [.lit (.bool true)], args := [d] }
  | _ => none }
def fnExactRowBytesRow : OpenClaim := { program := "ytkikilacigglmaa", sum := "a832033cf5c795fef052be2f785a1638e0056a26b67ae6ad8d28fbedc560a40b", func := "loop.example/g00305/laws.FnExactRowBytes", spec := "fnExactRowBytes", unfollowed := true, recurses := true, apart := false }
def FnExactRowBytesSaid : Prop := fnExactRowBytesRow.holds Try.pinned (OpenSpec.ofChange fnExactRowBytesSpec)

/-- ITS FALSE NEIGHBOUR: 'it returns false'. Refute it at one input. -/
def fnExactRowBytesWrong : ChangeSpec := { name := "fnExactRowBytes", fn := fun _ => fun
  | [d] => { results := [.lit (.bool false)], args := [d] }
  | _ => none }
def FnExactRowBytesWrongFalsely : Prop := fnExactRowBytesRow.holds Try.pinned (OpenSpec.ofChange fnExactRowBytesWrong)

/-- 'laws.FnExactReadRow': WHATEVER THE INPUT: true; the input reads as it did. -/
def fnExactReadRowSpec : ChangeSpec := { name := "fnExactReadRow", fn := fun _ => fun
  | [d] => { results := [.lit (.bool true)], args := [d] }
  | _ => none }
def fnExactReadRowRow : OpenClaim := { program := "ytkikilacigglmaa", sum := "a832033cf5c795fef052be2f785a1638e0056a26b67ae6ad8d28fbedc560a40b", func := "loop.example/g00305/laws.FnExactReadRow", spec := "fnExactReadRow", unfollowed := true, recurses := true, apart := false }
def FnExactReadRowSaid : Prop := fnExactReadRowRow.holds Try.pinned (OpenSpec.ofChange fnExactReadRowSpec)

/-- ITS FALSE NEIGHBOUR: 'it returns false'. Refute it at one input. -/
def fnExactReadRowWrong : ChangeSpec := { name := "fnExactReadRow", fn := fun _ => fun
  | [d] => { results := [.lit (.bool false)], args := [d] }
  | _ => none }
def FnExactReadRowWrongFalsely : Prop := fnExactReadRowRow.holds Try.pinned (OpenSpec.ofChange fnExactReadRowWrong)

/-- 'laws.FnExactGoodStats': WHATEVER THE INPUT: true; the input reads as it did. -/
def fnExactGoodStatsSpec : ChangeSpec := { name := "fnExactGoodStats", fn := fun _ => fun
  | [d] => { results := [.lit (.bool true)], args := [d] }
  | _ => none }
def fnExactGoodStatsRow : OpenClaim := { program := "ytkikilacigglmaa", sum := "a832033cf5c795fef052be2f785a1638e0056a26b67ae6ad8d28fbedc560a40b", func := "loop.example/g00305/laws.FnExactGoodStats", spec := "fnExactGoodStats", unfollowed := true, recurses := true, apart := false }
def FnExactGoodStatsSaid : Prop := fnExactGoodStatsRow.holds Try.pinned (OpenSpec.ofChange fnExactGoodStatsSpec)

/-- ITS FALSE NEIGHBOUR: 'it returns false'. Refute it at one input. -/
def fnExactGoodStatsWrong : ChangeSpec := { name := "fnExactGoodStats", fn := fun _ => fun
  | [d] => { results := [.lit (.bool false)], args := [d] }
  | _ => none }
def FnExactGoodStatsWrongFalsely : Prop := fnExactGoodStatsRow.holds Try.pinned (OpenSpec.ofChange fnExactGoodStatsWrong)

/- THE SECOND FORM. 'bulk': how many values and letters a reading holds, each counted each time it is reached (what is shared counts as often as it is met; a slice's spare places count too). A statement '..UptoSaid' is the law's where the arguments, and the package variables that the reading takes, are together of bulk at most 1048576: NARROWER than '..Said'. Prove '..Said' where nothing that the law and all that it calls make is longer than what came in: it says more and counts as full. Else prove '..UptoSaid'. A law counts once. -/
mutual
def uptoBulk {H : Type} : DataW H → Nat
  | .lit (.string bytes) => bytes.length + 1
  | .lit _ => 1
  | .nil => 1
  | .ptr d => uptoBulk d + 1
  | .slice elems spare => uptoBulkAll elems + uptoBulkAll spare + 1
  | .agg parts => uptoBulkAll parts + 1
  | .iface _ d => uptoBulk d + 1
  | .map entries => uptoBulkEntries entries + 1
  | .held _ => 1
def uptoBulkAll {H : Type} : List (DataW H) → Nat
  | [] => 0
  | d :: r => uptoBulk d + uptoBulkAll r
def uptoBulkEntries {H : Type} : List (Lit × DataW H) → Nat
  | [] => 0
  | x :: r => uptoBulkEntry x + uptoBulkEntries r
def uptoBulkEntry {H : Type} : Lit × DataW H → Nat
  | (.string bytes, d) => bytes.length + uptoBulk d + 1
  | (_, d) => uptoBulk d + 1
 end
def uptoSmall : (H : Type) → List (DataW H) → Bool := fun _ ds => decide (uptoBulkAll ds ≤ 1048576)
def OpenSpec.upto (s : _root_.Go.ChangeSpec) : _root_.Go.OpenSpec := { _root_.Go.OpenSpec.ofChange s with cond := some uptoSmall }

/-- 'laws.FnExactConstants', WHERE WHAT IT READS IS OF BULK AT MOST 1048576: true; the input reads as it did. -/
def fnExactConstantsUptoRow : OpenClaim := { program := "ytkikilacigglmaa", sum := "a832033cf5c795fef052be2f785a1638e0056a26b67ae6ad8d28fbedc560a40b", func := "loop.example/g00305/laws.FnExactConstants", spec := "fnExactConstants", apart := false, narrowed := true }
def FnExactConstantsUptoSaid : Prop := fnExactConstantsUptoRow.holds Try.pinned (OpenSpec.upto fnExactConstantsSpec)

/-- 'laws.FnExactGoodMap', WHERE WHAT IT READS IS OF BULK AT MOST 1048576: true; the input reads as it did. -/
def fnExactGoodMapUptoRow : OpenClaim := { program := "ytkikilacigglmaa", sum := "a832033cf5c795fef052be2f785a1638e0056a26b67ae6ad8d28fbedc560a40b", func := "loop.example/g00305/laws.FnExactGoodMap", spec := "fnExactGoodMap", apart := false, narrowed := true }
def FnExactGoodMapUptoSaid : Prop := fnExactGoodMapUptoRow.holds Try.pinned (OpenSpec.upto fnExactGoodMapSpec)

/-- 'laws.FnExactApplyMap', WHERE WHAT IT READS IS OF BULK AT MOST 1048576: true; the input reads as it did. -/
def fnExactApplyMapUptoRow : OpenClaim := { program := "ytkikilacigglmaa", sum := "a832033cf5c795fef052be2f785a1638e0056a26b67ae6ad8d28fbedc560a40b", func := "loop.example/g00305/laws.FnExactApplyMap", spec := "fnExactApplyMap", apart := false, narrowed := true }
def FnExactApplyMapUptoSaid : Prop := fnExactApplyMapUptoRow.holds Try.pinned (OpenSpec.upto fnExactApplyMapSpec)

/-- 'laws.FnExactComposeMaps', WHERE WHAT IT READS IS OF BULK AT MOST 1048576: true; the input reads as it did. -/
def fnExactComposeMapsUptoRow : OpenClaim := { program := "ytkikilacigglmaa", sum := "a832033cf5c795fef052be2f785a1638e0056a26b67ae6ad8d28fbedc560a40b", func := "loop.example/g00305/laws.FnExactComposeMaps", spec := "fnExactComposeMaps", apart := false, narrowed := true }
def FnExactComposeMapsUptoSaid : Prop := fnExactComposeMapsUptoRow.holds Try.pinned (OpenSpec.upto fnExactComposeMapsSpec)

/-- 'laws.FnExactGoodRow', WHERE WHAT IT READS IS OF BULK AT MOST 1048576: true; the input reads as it did. -/
def fnExactGoodRowUptoRow : OpenClaim := { program := "ytkikilacigglmaa", sum := "a832033cf5c795fef052be2f785a1638e0056a26b67ae6ad8d28fbedc560a40b", func := "loop.example/g00305/laws.FnExactGoodRow", spec := "fnExactGoodRow", unfollowed := true, recurses := true, apart := false, narrowed := true }
def FnExactGoodRowUptoSaid : Prop := fnExactGoodRowUptoRow.holds Try.pinned (OpenSpec.upto fnExactGoodRowSpec)

/-- 'laws.FnExactGoodSteps', WHERE WHAT IT READS IS OF BULK AT MOST 1048576: true; the input reads as it did. -/
def fnExactGoodStepsUptoRow : OpenClaim := { program := "ytkikilacigglmaa", sum := "a832033cf5c795fef052be2f785a1638e0056a26b67ae6ad8d28fbedc560a40b", func := "loop.example/g00305/laws.FnExactGoodSteps", spec := "fnExactGoodSteps", unfollowed := true, recurses := true, apart := false, narrowed := true }
def FnExactGoodStepsUptoSaid : Prop := fnExactGoodStepsUptoRow.holds Try.pinned (OpenSpec.upto fnExactGoodStepsSpec)

/-- 'laws.FnExactIsLinear', WHERE WHAT IT READS IS OF BULK AT MOST 1048576: true; the input reads as it did. -/
def fnExactIsLinearUptoRow : OpenClaim := { program := "ytkikilacigglmaa", sum := "a832033cf5c795fef052be2f785a1638e0056a26b67ae6ad8d28fbedc560a40b", func := "loop.example/g00305/laws.FnExactIsLinear", spec := "fnExactIsLinear", unfollowed := true, recurses := true, apart := false, narrowed := true }
def FnExactIsLinearUptoSaid : Prop := fnExactIsLinearUptoRow.holds Try.pinned (OpenSpec.upto fnExactIsLinearSpec)

/-- 'laws.FnExactNewWindow', WHERE WHAT IT READS IS OF BULK AT MOST 1048576: true; the input reads as it did. -/
def fnExactNewWindowUptoRow : OpenClaim := { program := "ytkikilacigglmaa", sum := "a832033cf5c795fef052be2f785a1638e0056a26b67ae6ad8d28fbedc560a40b", func := "loop.example/g00305/laws.FnExactNewWindow", spec := "fnExactNewWindow", apart := false, narrowed := true }
def FnExactNewWindowUptoSaid : Prop := fnExactNewWindowUptoRow.holds Try.pinned (OpenSpec.upto fnExactNewWindowSpec)

/-- 'laws.FnExactGoodTests', WHERE WHAT IT READS IS OF BULK AT MOST 1048576: true; the input reads as it did. -/
def fnExactGoodTestsUptoRow : OpenClaim := { program := "ytkikilacigglmaa", sum := "a832033cf5c795fef052be2f785a1638e0056a26b67ae6ad8d28fbedc560a40b", func := "loop.example/g00305/laws.FnExactGoodTests", spec := "fnExactGoodTests", unfollowed := true, recurses := true, apart := false, narrowed := true }
def FnExactGoodTestsUptoSaid : Prop := fnExactGoodTestsUptoRow.holds Try.pinned (OpenSpec.upto fnExactGoodTestsSpec)

/-- 'laws.FnExactRowBytes', WHERE WHAT IT READS IS OF BULK AT MOST 1048576: true; the input reads as it did. -/
def fnExactRowBytesUptoRow : OpenClaim := { program := "ytkikilacigglmaa", sum := "a832033cf5c795fef052be2f785a1638e0056a26b67ae6ad8d28fbedc560a40b", func := "loop.example/g00305/laws.FnExactRowBytes", spec := "fnExactRowBytes", unfollowed := true, recurses := true, apart := false, narrowed := true }
def FnExactRowBytesUptoSaid : Prop := fnExactRowBytesUptoRow.holds Try.pinned (OpenSpec.upto fnExactRowBytesSpec)

/-- 'laws.FnExactReadRow', WHERE WHAT IT READS IS OF BULK AT MOST 1048576: true; the input reads as it did. -/
def fnExactReadRowUptoRow : OpenClaim := { program := "ytkikilacigglmaa", sum := "a832033cf5c795fef052be2f785a1638e0056a26b67ae6ad8d28fbedc560a40b", func := "loop.example/g00305/laws.FnExactReadRow", spec := "fnExactReadRow", unfollowed := true, recurses := true, apart := false, narrowed := true }
def FnExactReadRowUptoSaid : Prop := fnExactReadRowUptoRow.holds Try.pinned (OpenSpec.upto fnExactReadRowSpec)

/-- 'laws.FnExactGoodStats', WHERE WHAT IT READS IS OF BULK AT MOST 1048576: true; the input reads as it did. -/
def fnExactGoodStatsUptoRow : OpenClaim := { program := "ytkikilacigglmaa", sum := "a832033cf5c795fef052be2f785a1638e0056a26b67ae6ad8d28fbedc560a40b", func := "loop.example/g00305/laws.FnExactGoodStats", spec := "fnExactGoodStats", unfollowed := true, recurses := true, apart := false, narrowed := true }
def FnExactGoodStatsUptoSaid : Prop := fnExactGoodStatsUptoRow.holds Try.pinned (OpenSpec.upto fnExactGoodStatsSpec)

end Rows
end Go.Proofs.Ytkikilacigglmaa
