/-
  No cell of these rows narrows 'for every input' (looked for: loops, veiled, ifaces, maps, wideKeys, modest, calm, conditions, laid).
  DERIVED. THE GIVEN ROWS OF THIS SEAT. 15 by the template 'for every input the law returns true; each argument reads behind the call as it read before'; 0 by the template 'total and deterministic' (their statements: YtcbikaoackbbjaaTotals.lean).
  GIVEN WITH THE SEED: the statements are not yours to turn. If you find one false, say at which input.
  Laid BY PROGRAM, IN A SANDBOX (cutbox-rows.mjs): the forced cells as the released guide's own fill.sh prints them over the translation d6769c0d2a4df8e6… (all of the seat's roots in one cut). By AI agents, Wed Nov 11 2026. No macro, syntax, notation, axiom, sorry.
-/
import Derived.Test.YtcbikaoackbbjaaChecked
import GoSem.Claim
import GoSem.ClaimJoined
import GoSem.ClaimMapViews
import Derived.JoinedTies
import Derived.KernelRfl
namespace Go.Proofs.Ytcbikaoackbbjaa
/- THE CELL 'sum', in the pinned program and in every row, IS THE sha256 OF THE DUMP (.gsa) THAT YtcbikaoackbbjaaProg.lean LOADS. Nothing in Lean hashes anything: it is a label: what it is worth is what the hold of that sum in a sandbox is worth. -/
noncomputable def Try.pinned : Pinned := { name := "ytcbikaoackbbjaa", sum := "d6769c0d2a4df8e64df7575b2dd8f16dadd44ce47054e24b9d83f5ee0f526c41", checked := Try.checked }
namespace Rows
def none {H : Type} : Left H := { results := [], args := [] }

/-- 'laws.FnExactPickCells': WHATEVER THE INPUT: true; the input reads as it did. -/
def fnExactPickCellsSpec : ChangeSpec := { name := "fnExactPickCells", fn := fun _ => fun
  | [d1, d2] => { results := [.lit (.bool true)], args := [d1, d2] }
  | _ => none }
def fnExactPickCellsRow : OpenClaim := { program := "ytcbikaoackbbjaa", sum := "d6769c0d2a4df8e64df7575b2dd8f16dadd44ce47054e24b9d83f5ee0f526c41", func := "loop.example/g00305/laws.FnExactPickCells", spec := "fnExactPickCells", unfollowed := true, recurses := true, apart := false }
def FnExactPickCellsSaid : Prop := fnExactPickCellsRow.holds Try.pinned (OpenSpec.ofChange fnExactPickCellsSpec)

/-- ITS FALSE NEIGHBOUR: 'it returns false'. Refute it at one input. -/
def fnExactPickCellsWrong : ChangeSpec := { name := "fnExactPickCells", fn := fun _ => fun
  | [d1, d2] => { results := [.lit (.bool false)], args := [d1, d2] }
  | _ => none }
def FnExactPickCellsWrongFalsely : Prop := fnExactPickCellsRow.holds Try.pinned (OpenSpec.ofChange fnExactPickCellsWrong)

/-- 'laws.FnExactCompareRows': WHATEVER THE INPUT: true; the input reads as it did. -/
def fnExactCompareRowsSpec : ChangeSpec := { name := "fnExactCompareRows", fn := fun _ => fun
  | [d1, d2] => { results := [.lit (.bool true)], args := [d1, d2] }
  | _ => none }
def fnExactCompareRowsRow : OpenClaim := { program := "ytcbikaoackbbjaa", sum := "d6769c0d2a4df8e64df7575b2dd8f16dadd44ce47054e24b9d83f5ee0f526c41", func := "loop.example/g00305/laws.FnExactCompareRows", spec := "fnExactCompareRows", unfollowed := true, recurses := true, apart := false }
def FnExactCompareRowsSaid : Prop := fnExactCompareRowsRow.holds Try.pinned (OpenSpec.ofChange fnExactCompareRowsSpec)

/-- ITS FALSE NEIGHBOUR: 'it returns false'. Refute it at one input. -/
def fnExactCompareRowsWrong : ChangeSpec := { name := "fnExactCompareRows", fn := fun _ => fun
  | [d1, d2] => { results := [.lit (.bool false)], args := [d1, d2] }
  | _ => none }
def FnExactCompareRowsWrongFalsely : Prop := fnExactCompareRowsRow.holds Try.pinned (OpenSpec.ofChange fnExactCompareRowsWrong)

/-- 'laws.FnExactEmptyTable': WHATEVER THE INPUT: true; the input reads as it did. -/
def fnExactEmptyTableSpec : ChangeSpec := { name := "fnExactEmptyTable", fn := fun _ => fun
  | [d] => { results := [.lit (.bool true)], args := [d] }
  | _ => none }
def fnExactEmptyTableRow : OpenClaim := { program := "ytcbikaoackbbjaa", sum := "d6769c0d2a4df8e64df7575b2dd8f16dadd44ce47054e24b9d83f5ee0f526c41", func := "loop.example/g00305/laws.FnExactEmptyTable", spec := "fnExactEmptyTable", apart := false }
def FnExactEmptyTableSaid : Prop := fnExactEmptyTableRow.holds Try.pinned (OpenSpec.ofChange fnExactEmptyTableSpec)

/-- ITS FALSE NEIGHBOUR: 'it returns false'. Refute it at one input. -/
def fnExactEmptyTableWrong : ChangeSpec := { name := "fnExactEmptyTable", fn := fun _ => fun
  | [d] => { results := [.lit (.bool false)], args := [d] }
  | _ => none }
def FnExactEmptyTableWrongFalsely : Prop := fnExactEmptyTableRow.holds Try.pinned (OpenSpec.ofChange fnExactEmptyTableWrong)

/-- 'laws.FnExactGoodGroups': WHATEVER THE INPUT: true; the input reads as it did. -/
def fnExactGoodGroupsSpec : ChangeSpec := { name := "fnExactGoodGroups", fn := fun _ => fun
  | [d] => { results := [.lit (.bool true)], args := [d] }
  | _ => none }
def fnExactGoodGroupsRow : OpenClaim := { program := "ytcbikaoackbbjaa", sum := "d6769c0d2a4df8e64df7575b2dd8f16dadd44ce47054e24b9d83f5ee0f526c41", func := "loop.example/g00305/laws.FnExactGoodGroups", spec := "fnExactGoodGroups", unfollowed := true, recurses := true, apart := false }
def FnExactGoodGroupsSaid : Prop := fnExactGoodGroupsRow.holds Try.pinned (OpenSpec.ofChange fnExactGoodGroupsSpec)

/-- ITS FALSE NEIGHBOUR: 'it returns false'. Refute it at one input. -/
def fnExactGoodGroupsWrong : ChangeSpec := { name := "fnExactGoodGroups", fn := fun _ => fun
  | [d] => { results := [.lit (.bool false)], args := [d] }
  | _ => none }
def FnExactGoodGroupsWrongFalsely : Prop := fnExactGoodGroupsRow.holds Try.pinned (OpenSpec.ofChange fnExactGoodGroupsWrong)

/-- 'laws.FnExactGoodTable': WHATEVER THE INPUT: true; the input reads as it did. -/
def fnExactGoodTableSpec : ChangeSpec := { name := "fnExactGoodTable", fn := fun _ => fun
  | [d] => { results := [.lit (.bool true)], args := [d] }
  | _ => none }
def fnExactGoodTableRow : OpenClaim := { program := "ytcbikaoackbbjaa", sum := "d6769c0d2a4df8e64df7575b2dd8f16dadd44ce47054e24b9d83f5ee0f526c41", func := "loop.example/g00305/laws.FnExactGoodTable", spec := "fnExactGoodTable", unfollowed := true, recurses := true, apart := false }
def FnExactGoodTableSaid : Prop := fnExactGoodTableRow.holds Try.pinned (OpenSpec.ofChange fnExactGoodTableSpec)

/-- ITS FALSE NEIGHBOUR: 'it returns false'. Refute it at one input. -/
def fnExactGoodTableWrong : ChangeSpec := { name := "fnExactGoodTable", fn := fun _ => fun
  | [d] => { results := [.lit (.bool false)], args := [d] }
  | _ => none }
def FnExactGoodTableWrongFalsely : Prop := fnExactGoodTableRow.holds Try.pinned (OpenSpec.ofChange fnExactGoodTableWrong)

/-- 'laws.FnRowBytes': WHATEVER THE INPUT: true; the input reads as it did. -/
def fnRowBytesSpec : ChangeSpec := { name := "fnRowBytes", fn := fun _ => fun
  | [d1, d2] => { results := [.lit (.bool true)], args := [d1, d2] }
  | _ => none }
def fnRowBytesRow : OpenClaim := { program := "ytcbikaoackbbjaa", sum := "d6769c0d2a4df8e64df7575b2dd8f16dadd44ce47054e24b9d83f5ee0f526c41", func := "loop.example/g00305/laws.FnRowBytes", spec := "fnRowBytes", unfollowed := true, recurses := true, apart := false }
def FnRowBytesSaid : Prop := fnRowBytesRow.holds Try.pinned (OpenSpec.ofChange fnRowBytesSpec)

/-- ITS FALSE NEIGHBOUR: 'it returns false'. Refute it at one input. -/
def fnRowBytesWrong : ChangeSpec := { name := "fnRowBytes", fn := fun _ => fun
  | [d1, d2] => { results := [.lit (.bool false)], args := [d1, d2] }
  | _ => none }
def FnRowBytesWrongFalsely : Prop := fnRowBytesRow.holds Try.pinned (OpenSpec.ofChange fnRowBytesWrong)

/-- 'laws.FnExactJoinRows': WHATEVER THE INPUT: true; the input reads as it did. -/
def fnExactJoinRowsSpec : ChangeSpec := { name := "fnExactJoinRows", fn := fun _ => fun
  | [d1, d2, d3] => { results := [.lit (.bool true)], args := [d1, d2, d3] }
  | _ => none }
def fnExactJoinRowsRow : OpenClaim := { program := "ytcbikaoackbbjaa", sum := "d6769c0d2a4df8e64df7575b2dd8f16dadd44ce47054e24b9d83f5ee0f526c41", func := "loop.example/g00305/laws.FnExactJoinRows", spec := "fnExactJoinRows", unfollowed := true, recurses := true, apart := false }
def FnExactJoinRowsSaid : Prop := fnExactJoinRowsRow.holds Try.pinned (OpenSpec.ofChange fnExactJoinRowsSpec)

/-- ITS FALSE NEIGHBOUR: 'it returns false'. Refute it at one input. -/
def fnExactJoinRowsWrong : ChangeSpec := { name := "fnExactJoinRows", fn := fun _ => fun
  | [d1, d2, d3] => { results := [.lit (.bool false)], args := [d1, d2, d3] }
  | _ => none }
def FnExactJoinRowsWrongFalsely : Prop := fnExactJoinRowsRow.holds Try.pinned (OpenSpec.ofChange fnExactJoinRowsWrong)

/-- 'laws.FnExactTotalsOf': WHATEVER THE INPUT: true; the input reads as it did. -/
def fnExactTotalsOfSpec : ChangeSpec := { name := "fnExactTotalsOf", fn := fun _ => fun
  | [d] => { results := [.lit (.bool true)], args := [d] }
  | _ => none }
def fnExactTotalsOfRow : OpenClaim := { program := "ytcbikaoackbbjaa", sum := "d6769c0d2a4df8e64df7575b2dd8f16dadd44ce47054e24b9d83f5ee0f526c41", func := "loop.example/g00305/laws.FnExactTotalsOf", spec := "fnExactTotalsOf", unfollowed := true, recurses := true, apart := false }
def FnExactTotalsOfSaid : Prop := fnExactTotalsOfRow.holds Try.pinned (OpenSpec.ofChange fnExactTotalsOfSpec)

/-- ITS FALSE NEIGHBOUR: 'it returns false'. Refute it at one input. -/
def fnExactTotalsOfWrong : ChangeSpec := { name := "fnExactTotalsOf", fn := fun _ => fun
  | [d] => { results := [.lit (.bool false)], args := [d] }
  | _ => none }
def FnExactTotalsOfWrongFalsely : Prop := fnExactTotalsOfRow.holds Try.pinned (OpenSpec.ofChange fnExactTotalsOfWrong)

/-- 'laws.FnExactTotalOf': WHATEVER THE INPUT: true; the input reads as it did. -/
def fnExactTotalOfSpec : ChangeSpec := { name := "fnExactTotalOf", fn := fun _ => fun
  | [d] => { results := [.lit (.bool true)], args := [d] }
  | _ => none }
def fnExactTotalOfRow : OpenClaim := { program := "ytcbikaoackbbjaa", sum := "d6769c0d2a4df8e64df7575b2dd8f16dadd44ce47054e24b9d83f5ee0f526c41", func := "loop.example/g00305/laws.FnExactTotalOf", spec := "fnExactTotalOf", unfollowed := true, recurses := true, apart := false }
def FnExactTotalOfSaid : Prop := fnExactTotalOfRow.holds Try.pinned (OpenSpec.ofChange fnExactTotalOfSpec)

/-- ITS FALSE NEIGHBOUR: 'it returns false'. Refute it at one input. -/
def fnExactTotalOfWrong : ChangeSpec := { name := "fnExactTotalOf", fn := fun _ => fun
  | [d] => { results := [.lit (.bool false)], args := [d] }
  | _ => none }
def FnExactTotalOfWrongFalsely : Prop := fnExactTotalOfRow.holds Try.pinned (OpenSpec.ofChange fnExactTotalOfWrong)

/-- 'laws.FnExactIsPlain': WHATEVER THE INPUT: true; the input reads as it did. -/
def fnExactIsPlainSpec : ChangeSpec := { name := "fnExactIsPlain", fn := fun _ => fun
  | [d] => { results := [.lit (.bool true)], args := [d] }
  | _ => none }
def fnExactIsPlainRow : OpenClaim := { program := "ytcbikaoackbbjaa", sum := "d6769c0d2a4df8e64df7575b2dd8f16dadd44ce47054e24b9d83f5ee0f526c41", func := "loop.example/g00305/laws.FnExactIsPlain", spec := "fnExactIsPlain", unfollowed := true, recurses := true, apart := false }
def FnExactIsPlainSaid : Prop := fnExactIsPlainRow.holds Try.pinned (OpenSpec.ofChange fnExactIsPlainSpec)

/-- ITS FALSE NEIGHBOUR: 'it returns false'. Refute it at one input. -/
def fnExactIsPlainWrong : ChangeSpec := { name := "fnExactIsPlain", fn := fun _ => fun
  | [d] => { results := [.lit (.bool false)], args := [d] }
  | _ => none }
def FnExactIsPlainWrongFalsely : Prop := fnExactIsPlainRow.holds Try.pinned (OpenSpec.ofChange fnExactIsPlainWrong)

/-- 'laws.FnRowJoins': WHATEVER THE INPUT: true; the input reads as it did. -/
def fnRowJoinsSpec : ChangeSpec := { name := "fnRowJoins", fn := fun _ => fun
  | [d1, d2] => { results := [.lit (.bool true)], args := [d1, d2] }
  | _ => none }
def fnRowJoinsRow : OpenClaim := { program := "ytcbikaoackbbjaa", sum := "d6769c0d2a4df8e64df7575b2dd8f16dadd44ce47054e24b9d83f5ee0f526c41", func := "loop.example/g00305/laws.FnRowJoins", spec := "fnRowJoins", unfollowed := true, recurses := true, apart := false }
def FnRowJoinsSaid : Prop := fnRowJoinsRow.holds Try.pinned (OpenSpec.ofChange fnRowJoinsSpec)

/-- ITS FALSE NEIGHBOUR: 'it returns false'. Refute it at one input. -/
def fnRowJoinsWrong : ChangeSpec := { name := "fnRowJoins", fn := fun _ => fun
  | [d1, d2] => { results := [.lit (.bool false)], args := [d1, d2] }
  | _ => none }
def FnRowJoinsWrongFalsely : Prop := fnRowJoinsRow.holds Try.pinned (OpenSpec.ofChange fnRowJoinsWrong)

/-- 'laws.FnExactWeightOf': WHATEVER THE INPUT: true; the input reads as it did. -/
def fnExactWeightOfSpec : ChangeSpec := { name := "fnExactWeightOf", fn := fun _ => fun
  | [d1, d2] => { results := [.lit (.bool true)], args := [d1, d2] }
  | _ => none }
def fnExactWeightOfRow : OpenClaim := { program := "ytcbikaoackbbjaa", sum := "d6769c0d2a4df8e64df7575b2dd8f16dadd44ce47054e24b9d83f5ee0f526c41", func := "loop.example/g00305/laws.FnExactWeightOf", spec := "fnExactWeightOf", unfollowed := true, recurses := true, apart := false }
def FnExactWeightOfSaid : Prop := fnExactWeightOfRow.holds Try.pinned (OpenSpec.ofChange fnExactWeightOfSpec)

/-- ITS FALSE NEIGHBOUR: 'it returns false'. Refute it at one input. -/
def fnExactWeightOfWrong : ChangeSpec := { name := "fnExactWeightOf", fn := fun _ => fun
  | [d1, d2] => { results := [.lit (.bool false)], args := [d1, d2] }
  | _ => none }
def FnExactWeightOfWrongFalsely : Prop := fnExactWeightOfRow.holds Try.pinned (OpenSpec.ofChange fnExactWeightOfWrong)

/-- 'laws.FnExactGoodStream': WHATEVER THE INPUT: true; the input reads as it did. -/
def fnExactGoodStreamSpec : ChangeSpec := { name := "fnExactGoodStream", fn := fun _ => fun
  | [d] => { results := [.lit (.bool true)], args := [d] }
  | _ => none }
def fnExactGoodStreamRow : OpenClaim := { program := "ytcbikaoackbbjaa", sum := "d6769c0d2a4df8e64df7575b2dd8f16dadd44ce47054e24b9d83f5ee0f526c41", func := "loop.example/g00305/laws.FnExactGoodStream", spec := "fnExactGoodStream", unfollowed := true, recurses := true, apart := false }
def FnExactGoodStreamSaid : Prop := fnExactGoodStreamRow.holds Try.pinned (OpenSpec.ofChange fnExactGoodStreamSpec)

/-- ITS FALSE NEIGHBOUR: 'it returns false'. Refute it at one input. -/
def fnExactGoodStreamWrong : ChangeSpec := { name := "fnExactGoodStream", fn := fun _ => fun
  | [d] => { results := [.lit (.bool false)], args := [d] }
  | _ => none }
def FnExactGoodStreamWrongFalsely : Prop := fnExactGoodStreamRow.holds Try.pinned (OpenSpec.ofChange fnExactGoodStreamWrong)

/-- 'laws.FnExactHoldsIn': WHATEVER THE INPUT: true; the input reads as it did. -/
def fnExactHoldsInSpec : ChangeSpec := { name := "fnExactHoldsIn", fn := fun _ => fun
  | [d1, d2] => { results := [.lit (.bool true)], args := [d1, d2] }
  | _ => none }
def fnExactHoldsInRow : OpenClaim := { program := "ytcbikaoackbbjaa", sum := "d6769c0d2a4df8e64df7575b2dd8f16dadd44ce47054e24b9d83f5ee0f526c41", func := "loop.example/g00305/laws.FnExactHoldsIn", spec := "fnExactHoldsIn", unfollowed := true, recurses := true, apart := false }
def FnExactHoldsInSaid : Prop := fnExactHoldsInRow.holds Try.pinned (OpenSpec.ofChange fnExactHoldsInSpec)

/-- ITS FALSE NEIGHBOUR: 'it returns false'. Refute it at one input. -/
def fnExactHoldsInWrong : ChangeSpec := { name := "fnExactHoldsIn", fn := fun _ => fun
  | [d1, d2] => { results := [.lit (.bool false)], args := [d1, d2] }
  | _ => none }
def FnExactHoldsInWrongFalsely : Prop := fnExactHoldsInRow.holds Try.pinned (OpenSpec.ofChange fnExactHoldsInWrong)

/-- 'laws.FnExactGroupsAsTable': WHATEVER THE INPUT: true; the input reads as it did. -/
def fnExactGroupsAsTableSpec : ChangeSpec := { name := "fnExactGroupsAsTable", fn := fun _ => fun
  | [d] => { results := [.lit (.bool true)], args := [d] }
  | _ => none }
def fnExactGroupsAsTableRow : OpenClaim := { program := "ytcbikaoackbbjaa", sum := "d6769c0d2a4df8e64df7575b2dd8f16dadd44ce47054e24b9d83f5ee0f526c41", func := "loop.example/g00305/laws.FnExactGroupsAsTable", spec := "fnExactGroupsAsTable", unfollowed := true, recurses := true, apart := false }
def FnExactGroupsAsTableSaid : Prop := fnExactGroupsAsTableRow.holds Try.pinned (OpenSpec.ofChange fnExactGroupsAsTableSpec)

/-- ITS FALSE NEIGHBOUR: 'it returns false'. Refute it at one input. -/
def fnExactGroupsAsTableWrong : ChangeSpec := { name := "fnExactGroupsAsTable", fn := fun _ => fun
  | [d] => { results := [.lit (.bool false)], args := [d] }
  | _ => none }
def FnExactGroupsAsTableWrongFalsely : Prop := fnExactGroupsAsTableRow.holds Try.pinned (OpenSpec.ofChange fnExactGroupsAsTableWrong)

/- THE SECOND FORM. 'bulk': how many values and letters a reading holds, each counted each time it is reached (what is shared counts as often as it is met; a slice's spare places count too). A statement '..UptoSaid' is the law's where the arguments, and the package variables that the reading takes, are together of bulk at most 1048576: NARROWER than '..Said'. Prove '..Said' where nothing that the law and all that it calls make is longer than what came in: it says more and counts as full. Else prove '..UptoSaid'. A law counts once. -/
mutual
def uptoBulk {H : Type} : DataW H → Nat
  | .lit (.string bytes) => bytes.length + 1
  | .lit _ => 1
  | .nil => 1
  | .ptr d => uptoBulk d + 1
  | .slice elems spare => uptoBulkAll elems + uptoBulkAll spare + 1
  | .agg parts => uptoBulkAll parts + 1
  | .iface _ d => uptoBulk d + 1
  | .map entries => uptoBulkEntries entries + 1
  | .held _ => 1
def uptoBulkAll {H : Type} : List (DataW H) → Nat
  | [] => 0
  | d :: r => uptoBulk d + uptoBulkAll r
def uptoBulkEntries {H : Type} : List (Lit × DataW H) → Nat
  | [] => 0
  | x :: r => uptoBulkEntry x + uptoBulkEntries r
def uptoBulkEntry {H : Type} : Lit × DataW H → Nat
  | (.string bytes, d) => bytes.length + uptoBulk d + 1
  | (_, d) => uptoBulk d + 1
 end
def uptoSmall : (H : Type) → List (DataW H) → Bool := fun _ ds => decide (uptoBulkAll ds ≤ 1048576)
def OpenSpec.upto (s : _root_.Go.ChangeSpec) : _root_.Go.OpenSpec := { _root_.Go.OpenSpec.ofChange s with cond := some uptoSmall }

/-- 'laws.FnExactPickCells', WHERE WHAT IT READS IS OF BULK AT MOST 1048576: true; the input reads as it did. -/
def fnExactPickCellsUptoRow : OpenClaim := { program := "ytcbikaoackbbjaa", sum := "d6769c0d2a4df8e64df7575b2dd8f16dadd44ce47054e24b9d83f5ee0f526c41", func := "loop.example/g00305/laws.FnExactPickCells", spec := "fnExactPickCells", unfollowed := true, recurses := true, apart := false, narrowed := true }
def FnExactPickCellsUptoSaid : Prop := fnExactPickCellsUptoRow.holds Try.pinned (OpenSpec.upto fnExactPickCellsSpec)

/-- 'laws.FnExactCompareRows', WHERE WHAT IT READS IS OF BULK AT MOST 1048576: true; the input reads as it did. -/
def fnExactCompareRowsUptoRow : OpenClaim := { program := "ytcbikaoackbbjaa", sum := "d6769c0d2a4df8e64df7575b2dd8f16dadd44ce47054e24b9d83f5ee0f526c41", func := "loop.example/g00305/laws.FnExactCompareRows", spec := "fnExactCompareRows", unfollowed := true, recurses := true, apart := false, narrowed := true }
def FnExactCompareRowsUptoSaid : Prop := fnExactCompareRowsUptoRow.holds Try.pinned (OpenSpec.upto fnExactCompareRowsSpec)

/-- 'laws.FnExactEmptyTable', WHERE WHAT IT READS IS OF BULK AT MOST 1048576: true; the input reads as it did. -/
def fnExactEmptyTableUptoRow : OpenClaim := { program := "ytcbikaoackbbjaa", sum := "d6769c0d2a4df8e64df7575b2dd8f16dadd44ce47054e24b9d83f5ee0f526c41", func := "loop.example/g00305/laws.FnExactEmptyTable", spec := "fnExactEmptyTable", apart := false, narrowed := true }
def FnExactEmptyTableUptoSaid : Prop := fnExactEmptyTableUptoRow.holds Try.pinned (OpenSpec.upto fnExactEmptyTableSpec)

/-- 'laws.FnExactGoodGroups', WHERE WHAT IT READS IS OF BULK AT MOST 1048576: true; the input reads as it did. -/
def fnExactGoodGroupsUptoRow : OpenClaim := { program := "ytcbikaoackbbjaa", sum := "d6769c0d2a4df8e64df7575b2dd8f16dadd44ce47054e24b9d83f5ee0f526c41", func := "loop.example/g00305/laws.FnExactGoodGroups", spec := "fnExactGoodGroups", unfollowed := true, recurses := true, apart := false, narrowed := true }
def FnExactGoodGroupsUptoSaid : Prop := fnExactGoodGroupsUptoRow.holds Try.pinned (OpenSpec.upto fnExactGoodGroupsSpec)

/-- 'laws.FnExactGoodTable', WHERE WHAT IT READS IS OF BULK AT MOST 1048576: true; the input reads as it did. -/
def fnExactGoodTableUptoRow : OpenClaim := { program := "ytcbikaoackbbjaa", sum := "d6769c0d2a4df8e64df7575b2dd8f16dadd44ce47054e24b9d83f5ee0f526c41", func := "loop.example/g00305/laws.FnExactGoodTable", spec := "fnExactGoodTable", unfollowed := true, recurses := true, apart := false, narrowed := true }
def FnExactGoodTableUptoSaid : Prop := fnExactGoodTableUptoRow.holds Try.pinned (OpenSpec.upto fnExactGoodTableSpec)

/-- 'laws.FnRowBytes', WHERE WHAT IT READS IS OF BULK AT MOST 1048576: true; the input reads as it did. -/
def fnRowBytesUptoRow : OpenClaim := { program := "ytcbikaoackbbjaa", sum := "d6769c0d2a4df8e64df7575b2dd8f16dadd44ce47054e24b9d83f5ee0f526c41", func := "loop.example/g00305/laws.FnRowBytes", spec := "fnRowBytes", unfollowed := true, recurses := true, apart := false, narrowed := true }
def FnRowBytesUptoSaid : Prop := fnRowBytesUptoRow.holds Try.pinned (OpenSpec.upto fnRowBytesSpec)

/-- 'laws.FnExactJoinRows', WHERE WHAT IT READS IS OF BULK AT MOST 1048576: true; the input reads as it did. -/
def fnExactJoinRowsUptoRow : OpenClaim := { program := "ytcbikaoackbbjaa", sum := "d6769c0d2a4df8e64df7575b2dd8f16dadd44ce47054e24b9d83f5ee0f526c41", func := "loop.example/g00305/laws.FnExactJoinRows", spec := "fnExactJoinRows", unfollowed := true, recurses := true, apart := false, narrowed := true }
def FnExactJoinRowsUptoSaid : Prop := fnExactJoinRowsUptoRow.holds Try.pinned (OpenSpec.upto fnExactJoinRowsSpec)

/-- 'laws.FnExactTotalsOf', WHERE WHAT IT READS IS OF BULK AT MOST 1048576: true; the input reads as it did. -/
def fnExactTotalsOfUptoRow : OpenClaim := { program := "ytcbikaoackbbjaa", sum := "d6769c0d2a4df8e64df7575b2dd8f16dadd44ce47054e24b9d83f5ee0f526c41", func := "loop.example/g00305/laws.FnExactTotalsOf", spec := "fnExactTotalsOf", unfollowed := true, recurses := true, apart := false, narrowed := true }
def FnExactTotalsOfUptoSaid : Prop := fnExactTotalsOfUptoRow.holds Try.pinned (OpenSpec.upto fnExactTotalsOfSpec)

/-- 'laws.FnExactTotalOf', WHERE WHAT IT READS IS OF BULK AT MOST 1048576: true; the input reads as it did. -/
def fnExactTotalOfUptoRow : OpenClaim := { program := "ytcbikaoackbbjaa", sum := "d6769c0d2a4df8e64df7575b2dd8f16dadd44ce47054e24b9d83f5ee0f526c41", func := "loop.example/g00305/laws.FnExactTotalOf", spec := "fnExactTotalOf", unfollowed := true, recurses := true, apart := false, narrowed := true }
def FnExactTotalOfUptoSaid : Prop := fnExactTotalOfUptoRow.holds Try.pinned (OpenSpec.upto fnExactTotalOfSpec)

/-- 'laws.FnExactIsPlain', WHERE WHAT IT READS IS OF BULK AT MOST 1048576: true; the input reads as it did. -/
def fnExactIsPlainUptoRow : OpenClaim := { program := "ytcbikaoackbbjaa", sum := "d6769c0d2a4df8e64df7575b2dd8f16dadd44ce47054e24b9d83f5ee0f526c41", func := "loop.example/g00305/laws.FnExactIsPlain", spec := "fnExactIsPlain", unfollowed := true, recurses := true, apart := false, narrowed := true }
def FnExactIsPlainUptoSaid : Prop := fnExactIsPlainUptoRow.holds Try.pinned (OpenSpec.upto fnExactIsPlainSpec)

/-- 'laws.FnRowJoins', WHERE WHAT IT READS IS OF BULK AT MOST 1048576: true; the input reads as it did. -/
def fnRowJoinsUptoRow : OpenClaim := { program := "ytcbikaoackbbjaa", sum := "d6769c0d2a4df8e64df7575b2dd8f16dadd44ce47054e24b9d83f5ee0f526c41", func := "loop.example/g00305/laws.FnRowJoins", spec := "fnRowJoins", unfollowed := true, recurses := true, apart := false, narrowed := true }
def FnRowJoinsUptoSaid : Prop := fnRowJoinsUptoRow.holds Try.pinned (OpenSpec.upto fnRowJoinsSpec)

/-- 'laws.FnExactWeightOf', WHERE WHAT IT READS IS OF BULK AT MOST 1048576: true; the input reads as it did. -/
def fnExactWeightOfUptoRow : OpenClaim := { program := "ytcbikaoackbbjaa", sum := "d6769c0d2a4df8e64df7575b2dd8f16dadd44ce47054e24b9d83f5ee0f526c41", func := "loop.example/g00305/laws.FnExactWeightOf", spec := "fnExactWeightOf", unfollowed := true, recurses := true, apart := false, narrowed := true }
def FnExactWeightOfUptoSaid : Prop := fnExactWeightOfUptoRow.holds Try.pinned (OpenSpec.upto fnExactWeightOfSpec)

/-- 'laws.FnExactGoodStream', WHERE WHAT IT READS IS OF BULK AT MOST 1048576: true; the input reads as it did. -/
def fnExactGoodStreamUptoRow : OpenClaim := { program := "ytcbikaoackbbjaa", sum := "d6769c0d2a4df8e64df7575b2dd8f16dadd44ce47054e24b9d83f5ee0f526c41", func := "loop.example/g00305/laws.FnExactGoodStream", spec := "fnExactGoodStream", unfollowed := true, recurses := true, apart := false, narrowed := true }
def FnExactGoodStreamUptoSaid : Prop := fnExactGoodStreamUptoRow.holds Try.pinned (OpenSpec.upto fnExactGoodStreamSpec)

/-- 'laws.FnExactHoldsIn', WHERE WHAT IT READS IS OF BULK AT MOST 1048576: true; the input reads as it did. -/
def fnExactHoldsInUptoRow : OpenClaim := { program := "ytcbikaoackbbjaa", sum := "d6769c0d2a4df8e64df7575b2dd8f16dadd44ce47054e24b9d83f5ee0f526c41", func := "loop.example/g00305/laws.FnExactHoldsIn", spec := "fnExactHoldsIn", unfollowed := true, recurses := true, apart := false, narrowed := true }
def FnExactHoldsInUptoSaid : Prop := fnExactHoldsInUptoRow.holds Try.pinned (OpenSpec.upto fnExactHoldsInSpec)

/-- 'laws.FnExactGroupsAsTable', WHERE WHAT IT READS IS OF BULK AT MOST 1048576: true; the input reads as it did. -/
def fnExactGroupsAsTableUptoRow : OpenClaim := { program := "ytcbikaoackbbjaa", sum := "d6769c0d2a4df8e64df7575b2dd8f16dadd44ce47054e24b9d83f5ee0f526c41", func := "loop.example/g00305/laws.FnExactGroupsAsTable", spec := "fnExactGroupsAsTable", unfollowed := true, recurses := true, apart := false, narrowed := true }
def FnExactGroupsAsTableUptoSaid : Prop := fnExactGroupsAsTableUptoRow.holds Try.pinned (OpenSpec.upto fnExactGroupsAsTableSpec)

end Rows
end Go.Proofs.Ytcbikaoackbbjaa
