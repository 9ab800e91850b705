/-
  No cell of these rows narrows 'for every input' (looked for: loops, veiled, ifaces, maps, wideKeys, modest, calm, conditions, laid).
  DERIVED. THE GIVEN ROWS OF THIS SEAT. 10 by the template 'for every input the law returns true; each argument reads behind the call as it read before'; 0 by the template 'total and deterministic' (their statements: YtfbomhedhfkcpaaTotals.lean).
  GIVEN WITH THE SEED: the statements are not yours to turn. If you find one false, say at which input.
  Laid BY PROGRAM, IN A SANDBOX (cutbox-rows.mjs): the forced cells as the released guide's own fill.sh prints them over the translation 38abb7dc55df6319… (all of the seat's roots in one cut). By AI agents, Wed Nov 11 2026. No macro, syntax, notation, axiom, sorry.
-/
import Derived.Test.YtfbomhedhfkcpaaChecked
import GoSem.Claim
import GoSem.ClaimJoined
import GoSem.ClaimMapViews
import Derived.JoinedTies
import Derived.KernelRfl
namespace Go.Proofs.Ytfbomhedhfkcpaa
/- THE CELL 'sum', in the pinned program and in every row, IS THE sha256 OF THE DUMP (.gsa) THAT YtfbomhedhfkcpaaProg.lean LOADS. Nothing in Lean hashes anything: it is a label: what it is worth is what the hold of that sum in a sandbox is worth. -/
noncomputable def Try.pinned : Pinned := { name := "ytfbomhedhfkcpaa", sum := "38abb7dc55df6319b399d7bfc4d35b31e45110363669c4d6d20f343510697eaa", checked := Try.checked }
namespace Rows
def none {H : Type} : Left H := { results := [], args := [] }

/-- 'laws.FnExactIsLossless': WHATEVER THE INPUT: true; the input reads as it did. -/
def fnExactIsLosslessSpec : ChangeSpec := { name := "fnExactIsLossless", fn := fun _ => fun
  | [d1, d2, d3] => { results := [.lit (.bool true)], args := [d1, d2, d3] }
  | _ => none }
def fnExactIsLosslessRow : OpenClaim := { program := "ytfbomhedhfkcpaa", sum := "38abb7dc55df6319b399d7bfc4d35b31e45110363669c4d6d20f343510697eaa", func := "loop.example/g00305/laws.FnExactIsLossless", spec := "fnExactIsLossless", unfollowed := true, recurses := true, apart := false }
def FnExactIsLosslessSaid : Prop := fnExactIsLosslessRow.holds Try.pinned (OpenSpec.ofChange fnExactIsLosslessSpec)

/-- ITS FALSE NEIGHBOUR: 'it returns false'. Refute it at one input. -/
def fnExactIsLosslessWrong : ChangeSpec := { name := "fnExactIsLossless", fn := fun _ => fun
  | [d1, d2, d3] => { results := [.lit (.bool false)], args := [d1, d2, d3] }
  | _ => none }
def FnExactIsLosslessWrongFalsely : Prop := fnExactIsLosslessRow.holds Try.pinned (OpenSpec.ofChange fnExactIsLosslessWrong)

/-- 'laws.FnExactGoodParts': WHATEVER THE INPUT: true; the input reads as it did. -/
def fnExactGoodPartsSpec : ChangeSpec := { name := "fnExactGoodParts", fn := fun _ => fun
  | [d1, d2] => { results := [.lit (.bool true)], args := [d1, d2] }
  | _ => none }
def fnExactGoodPartsRow : OpenClaim := { program := "ytfbomhedhfkcpaa", sum := "38abb7dc55df6319b399d7bfc4d35b31e45110363669c4d6d20f343510697eaa", func := "loop.example/g00305/laws.FnExactGoodParts", spec := "fnExactGoodParts", apart := false }
def FnExactGoodPartsSaid : Prop := fnExactGoodPartsRow.holds Try.pinned (OpenSpec.ofChange fnExactGoodPartsSpec)

/-- ITS FALSE NEIGHBOUR: 'it returns false'. Refute it at one input. -/
def fnExactGoodPartsWrong : ChangeSpec := { name := "fnExactGoodParts", fn := fun _ => fun
  | [d1, d2] => { results := [.lit (.bool false)], args := [d1, d2] }
  | _ => none }
def FnExactGoodPartsWrongFalsely : Prop := fnExactGoodPartsRow.holds Try.pinned (OpenSpec.ofChange fnExactGoodPartsWrong)

/-- 'laws.FnExactGoodDepends': WHATEVER THE INPUT: true; the input reads as it did. -/
def fnExactGoodDependsSpec : ChangeSpec := { name := "fnExactGoodDepends", fn := fun _ => fun
  | [d1, d2] => { results := [.lit (.bool true)], args := [d1, d2] }
  | _ => none }
def fnExactGoodDependsRow : OpenClaim := { program := "ytfbomhedhfkcpaa", sum := "38abb7dc55df6319b399d7bfc4d35b31e45110363669c4d6d20f343510697eaa", func := "loop.example/g00305/laws.FnExactGoodDepends", spec := "fnExactGoodDepends", unfollowed := true, recurses := true, apart := false }
def FnExactGoodDependsSaid : Prop := fnExactGoodDependsRow.holds Try.pinned (OpenSpec.ofChange fnExactGoodDependsSpec)

/-- ITS FALSE NEIGHBOUR: 'it returns false'. Refute it at one input. -/
def fnExactGoodDependsWrong : ChangeSpec := { name := "fnExactGoodDepends", fn := fun _ => fun
  | [d1, d2] => { results := [.lit (.bool false)], args := [d1, d2] }
  | _ => none }
def FnExactGoodDependsWrongFalsely : Prop := fnExactGoodDependsRow.holds Try.pinned (OpenSpec.ofChange fnExactGoodDependsWrong)

/-- 'laws.FnExactGoodTableau': WHATEVER THE INPUT: true; the input reads as it did. -/
def fnExactGoodTableauSpec : ChangeSpec := { name := "fnExactGoodTableau", fn := fun _ => fun
  | [d] => { results := [.lit (.bool true)], args := [d] }
  | _ => none }
def fnExactGoodTableauRow : OpenClaim := { program := "ytfbomhedhfkcpaa", sum := "38abb7dc55df6319b399d7bfc4d35b31e45110363669c4d6d20f343510697eaa", func := "loop.example/g00305/laws.FnExactGoodTableau", spec := "fnExactGoodTableau", unfollowed := true, recurses := true, apart := false }
def FnExactGoodTableauSaid : Prop := fnExactGoodTableauRow.holds Try.pinned (OpenSpec.ofChange fnExactGoodTableauSpec)

/-- ITS FALSE NEIGHBOUR: 'it returns false'. Refute it at one input. -/
def fnExactGoodTableauWrong : ChangeSpec := { name := "fnExactGoodTableau", fn := fun _ => fun
  | [d] => { results := [.lit (.bool false)], args := [d] }
  | _ => none }
def FnExactGoodTableauWrongFalsely : Prop := fnExactGoodTableauRow.holds Try.pinned (OpenSpec.ofChange fnExactGoodTableauWrong)

/-- 'laws.FnExactCheckView': WHATEVER THE INPUT: true; the input reads as it did. -/
def fnExactCheckViewSpec : ChangeSpec := { name := "fnExactCheckView", fn := fun _ => fun
  | [d] => { results := [.lit (.bool true)], args := [d] }
  | _ => none }
def fnExactCheckViewRow : OpenClaim := { program := "ytfbomhedhfkcpaa", sum := "38abb7dc55df6319b399d7bfc4d35b31e45110363669c4d6d20f343510697eaa", func := "loop.example/g00305/laws.FnExactCheckView", spec := "fnExactCheckView", unfollowed := true, recurses := true, apart := false }
def FnExactCheckViewSaid : Prop := fnExactCheckViewRow.holds Try.pinned (OpenSpec.ofChange fnExactCheckViewSpec)

/-- ITS FALSE NEIGHBOUR: 'it returns false'. Refute it at one input. -/
def fnExactCheckViewWrong : ChangeSpec := { name := "fnExactCheckView", fn := fun _ => fun
  | [d] => { results := [.lit (.bool false)], args := [d] }
  | _ => none }
def FnExactCheckViewWrongFalsely : Prop := fnExactCheckViewRow.holds Try.pinned (OpenSpec.ofChange fnExactCheckViewWrong)

/-- 'laws.FnExactIsOrder': WHATEVER THE INPUT: true; the input reads as it did. -/
def fnExactIsOrderSpec : ChangeSpec := { name := "fnExactIsOrder", fn := fun _ => fun
  | [d1, d2] => { results := [.lit (.bool true)], args := [d1, d2] }
  | _ => none }
def fnExactIsOrderRow : OpenClaim := { program := "ytfbomhedhfkcpaa", sum := "38abb7dc55df6319b399d7bfc4d35b31e45110363669c4d6d20f343510697eaa", func := "loop.example/g00305/laws.FnExactIsOrder", spec := "fnExactIsOrder", unfollowed := true, recurses := true, apart := false }
def FnExactIsOrderSaid : Prop := fnExactIsOrderRow.holds Try.pinned (OpenSpec.ofChange fnExactIsOrderSpec)

/-- ITS FALSE NEIGHBOUR: 'it returns false'. Refute it at one input. -/
def fnExactIsOrderWrong : ChangeSpec := { name := "fnExactIsOrder", fn := fun _ => fun
  | [d1, d2] => { results := [.lit (.bool false)], args := [d1, d2] }
  | _ => none }
def FnExactIsOrderWrongFalsely : Prop := fnExactIsOrderRow.holds Try.pinned (OpenSpec.ofChange fnExactIsOrderWrong)

/-- 'laws.FnExactImplies': WHATEVER THE INPUT: true; the input reads as it did. -/
def fnExactImpliesSpec : ChangeSpec := { name := "fnExactImplies", fn := fun _ => fun
  | [d1, d2, d3] => { results := [.lit (.bool true)], args := [d1, d2, d3] }
  | _ => none }
def fnExactImpliesRow : OpenClaim := { program := "ytfbomhedhfkcpaa", sum := "38abb7dc55df6319b399d7bfc4d35b31e45110363669c4d6d20f343510697eaa", func := "loop.example/g00305/laws.FnExactImplies", spec := "fnExactImplies", unfollowed := true, recurses := true, apart := false }
def FnExactImpliesSaid : Prop := fnExactImpliesRow.holds Try.pinned (OpenSpec.ofChange fnExactImpliesSpec)

/-- ITS FALSE NEIGHBOUR: 'it returns false'. Refute it at one input. -/
def fnExactImpliesWrong : ChangeSpec := { name := "fnExactImplies", fn := fun _ => fun
  | [d1, d2, d3] => { results := [.lit (.bool false)], args := [d1, d2, d3] }
  | _ => none }
def FnExactImpliesWrongFalsely : Prop := fnExactImpliesRow.holds Try.pinned (OpenSpec.ofChange fnExactImpliesWrong)

/-- 'laws.FnExactSameDepends': WHATEVER THE INPUT: true; the input reads as it did. -/
def fnExactSameDependsSpec : ChangeSpec := { name := "fnExactSameDepends", fn := fun _ => fun
  | [d1, d2, d3] => { results := [.lit (.bool true)], args := [d1, d2, d3] }
  | _ => none }
def fnExactSameDependsRow : OpenClaim := { program := "ytfbomhedhfkcpaa", sum := "38abb7dc55df6319b399d7bfc4d35b31e45110363669c4d6d20f343510697eaa", func := "loop.example/g00305/laws.FnExactSameDepends", spec := "fnExactSameDepends", unfollowed := true, recurses := true, apart := false }
def FnExactSameDependsSaid : Prop := fnExactSameDependsRow.holds Try.pinned (OpenSpec.ofChange fnExactSameDependsSpec)

/-- ITS FALSE NEIGHBOUR: 'it returns false'. Refute it at one input. -/
def fnExactSameDependsWrong : ChangeSpec := { name := "fnExactSameDepends", fn := fun _ => fun
  | [d1, d2, d3] => { results := [.lit (.bool false)], args := [d1, d2, d3] }
  | _ => none }
def FnExactSameDependsWrongFalsely : Prop := fnExactSameDependsRow.holds Try.pinned (OpenSpec.ofChange fnExactSameDependsWrong)

/-- 'laws.FnExactStartTableau': WHATEVER THE INPUT: true; the input reads as it did. -/
def fnExactStartTableauSpec : ChangeSpec := { name := "fnExactStartTableau", fn := fun _ => fun
  | [d1, d2] => { results := [.lit (.bool true)], args := [d1, d2] }
  | _ => none }
def fnExactStartTableauRow : OpenClaim := { program := "ytfbomhedhfkcpaa", sum := "38abb7dc55df6319b399d7bfc4d35b31e45110363669c4d6d20f343510697eaa", func := "loop.example/g00305/laws.FnExactStartTableau", spec := "fnExactStartTableau", apart := false }
def FnExactStartTableauSaid : Prop := fnExactStartTableauRow.holds Try.pinned (OpenSpec.ofChange fnExactStartTableauSpec)

/-- ITS FALSE NEIGHBOUR: 'it returns false'. Refute it at one input. -/
def fnExactStartTableauWrong : ChangeSpec := { name := "fnExactStartTableau", fn := fun _ => fun
  | [d1, d2] => { results := [.lit (.bool false)], args := [d1, d2] }
  | _ => none }
def FnExactStartTableauWrongFalsely : Prop := fnExactStartTableauRow.holds Try.pinned (OpenSpec.ofChange fnExactStartTableauWrong)

/-- 'laws.FnExactWitnessFor': WHATEVER THE INPUT: true; the input reads as it did. -/
def fnExactWitnessForSpec : ChangeSpec := { name := "fnExactWitnessFor", fn := fun _ => fun
  | [d1, d2, d3] => { results := [.lit (.bool true)], args := [d1, d2, d3] }
  | _ => none }
def fnExactWitnessForRow : OpenClaim := { program := "ytfbomhedhfkcpaa", sum := "38abb7dc55df6319b399d7bfc4d35b31e45110363669c4d6d20f343510697eaa", func := "loop.example/g00305/laws.FnExactWitnessFor", spec := "fnExactWitnessFor", unfollowed := true, recurses := true, apart := false }
def FnExactWitnessForSaid : Prop := fnExactWitnessForRow.holds Try.pinned (OpenSpec.ofChange fnExactWitnessForSpec)

/-- ITS FALSE NEIGHBOUR: 'it returns false'. Refute it at one input. -/
def fnExactWitnessForWrong : ChangeSpec := { name := "fnExactWitnessFor", fn := fun _ => fun
  | [d1, d2, d3] => { results := [.lit (.bool false)], args := [d1, d2, d3] }
  | _ => none }
def FnExactWitnessForWrongFalsely : Prop := fnExactWitnessForRow.holds Try.pinned (OpenSpec.ofChange fnExactWitnessForWrong)

/- THE SECOND FORM. 'bulk': how many values and letters a reading holds, each counted each time it is reached (what is shared counts as often as it is met; a slice's spare places count too). A statement '..UptoSaid' is the law's where the arguments, and the package variables that the reading takes, are together of bulk at most 1048576: NARROWER than '..Said'. Prove '..Said' where nothing that the law and all that it calls make is longer than what came in: it says more and counts as full. Else prove '..UptoSaid'. A law counts once. -/
mutual
def uptoBulk {H : Type} : DataW H → Nat
  | .lit (.string bytes) => bytes.length + 1
  | .lit _ => 1
  | .nil => 1
  | .ptr d => uptoBulk d + 1
  | .slice elems spare => uptoBulkAll elems + uptoBulkAll spare + 1
  | .agg parts => uptoBulkAll parts + 1
  | .iface _ d => uptoBulk d + 1
  | .map entries => uptoBulkEntries entries + 1
  | .held _ => 1
def uptoBulkAll {H : Type} : List (DataW H) → Nat
  | [] => 0
  | d :: r => uptoBulk d + uptoBulkAll r
def uptoBulkEntries {H : Type} : List (Lit × DataW H) → Nat
  | [] => 0
  | x :: r => uptoBulkEntry x + uptoBulkEntries r
def uptoBulkEntry {H : Type} : Lit × DataW H → Nat
  | (.string bytes, d) => bytes.length + uptoBulk d + 1
  | (_, d) => uptoBulk d + 1
 end
def uptoSmall : (H : Type) → List (DataW H) → Bool := fun _ ds => decide (uptoBulkAll ds ≤ 1048576)
def OpenSpec.upto (s : _root_.Go.ChangeSpec) : _root_.Go.OpenSpec := { _root_.Go.OpenSpec.ofChange s with cond := some uptoSmall }

/-- 'laws.FnExactIsLossless', WHERE WHAT IT READS IS OF BULK AT MOST 1048576: true; the input reads as it did. -/
def fnExactIsLosslessUptoRow : OpenClaim := { program := "ytfbomhedhfkcpaa", sum := "38abb7dc55df6319b399d7bfc4d35b31e45110363669c4d6d20f343510697eaa", func := "loop.example/g00305/laws.FnExactIsLossless", spec := "fnExactIsLossless", unfollowed := true, recurses := true, apart := false, narrowed := true }
def FnExactIsLosslessUptoSaid : Prop := fnExactIsLosslessUptoRow.holds Try.pinned (OpenSpec.upto fnExactIsLosslessSpec)

/-- 'laws.FnExactGoodParts', WHERE WHAT IT READS IS OF BULK AT MOST 1048576: true; the input reads as it did. -/
def fnExactGoodPartsUptoRow : OpenClaim := { program := "ytfbomhedhfkcpaa", sum := "38abb7dc55df6319b399d7bfc4d35b31e45110363669c4d6d20f343510697eaa", func := "loop.example/g00305/laws.FnExactGoodParts", spec := "fnExactGoodParts", apart := false, narrowed := true }
def FnExactGoodPartsUptoSaid : Prop := fnExactGoodPartsUptoRow.holds Try.pinned (OpenSpec.upto fnExactGoodPartsSpec)

/-- 'laws.FnExactGoodDepends', WHERE WHAT IT READS IS OF BULK AT MOST 1048576: true; the input reads as it did. -/
def fnExactGoodDependsUptoRow : OpenClaim := { program := "ytfbomhedhfkcpaa", sum := "38abb7dc55df6319b399d7bfc4d35b31e45110363669c4d6d20f343510697eaa", func := "loop.example/g00305/laws.FnExactGoodDepends", spec := "fnExactGoodDepends", unfollowed := true, recurses := true, apart := false, narrowed := true }
def FnExactGoodDependsUptoSaid : Prop := fnExactGoodDependsUptoRow.holds Try.pinned (OpenSpec.upto fnExactGoodDependsSpec)

/-- 'laws.FnExactGoodTableau', WHERE WHAT IT READS IS OF BULK AT MOST 1048576: true; the input reads as it did. -/
def fnExactGoodTableauUptoRow : OpenClaim := { program := "ytfbomhedhfkcpaa", sum := "38abb7dc55df6319b399d7bfc4d35b31e45110363669c4d6d20f343510697eaa", func := "loop.example/g00305/laws.FnExactGoodTableau", spec := "fnExactGoodTableau", unfollowed := true, recurses := true, apart := false, narrowed := true }
def FnExactGoodTableauUptoSaid : Prop := fnExactGoodTableauUptoRow.holds Try.pinned (OpenSpec.upto fnExactGoodTableauSpec)

/-- 'laws.FnExactCheckView', WHERE WHAT IT READS IS OF BULK AT MOST 1048576: true; the input reads as it did. -/
def fnExactCheckViewUptoRow : OpenClaim := { program := "ytfbomhedhfkcpaa", sum := "38abb7dc55df6319b399d7bfc4d35b31e45110363669c4d6d20f343510697eaa", func := "loop.example/g00305/laws.FnExactCheckView", spec := "fnExactCheckView", unfollowed := true, recurses := true, apart := false, narrowed := true }
def FnExactCheckViewUptoSaid : Prop := fnExactCheckViewUptoRow.holds Try.pinned (OpenSpec.upto fnExactCheckViewSpec)

/-- 'laws.FnExactIsOrder', WHERE WHAT IT READS IS OF BULK AT MOST 1048576: true; the input reads as it did. -/
def fnExactIsOrderUptoRow : OpenClaim := { program := "ytfbomhedhfkcpaa", sum := "38abb7dc55df6319b399d7bfc4d35b31e45110363669c4d6d20f343510697eaa", func := "loop.example/g00305/laws.FnExactIsOrder", spec := "fnExactIsOrder", unfollowed := true, recurses := true, apart := false, narrowed := true }
def FnExactIsOrderUptoSaid : Prop := fnExactIsOrderUptoRow.holds Try.pinned (OpenSpec.upto fnExactIsOrderSpec)

/-- 'laws.FnExactImplies', WHERE WHAT IT READS IS OF BULK AT MOST 1048576: true; the input reads as it did. -/
def fnExactImpliesUptoRow : OpenClaim := { program := "ytfbomhedhfkcpaa", sum := "38abb7dc55df6319b399d7bfc4d35b31e45110363669c4d6d20f343510697eaa", func := "loop.example/g00305/laws.FnExactImplies", spec := "fnExactImplies", unfollowed := true, recurses := true, apart := false, narrowed := true }
def FnExactImpliesUptoSaid : Prop := fnExactImpliesUptoRow.holds Try.pinned (OpenSpec.upto fnExactImpliesSpec)

/-- 'laws.FnExactSameDepends', WHERE WHAT IT READS IS OF BULK AT MOST 1048576: true; the input reads as it did. -/
def fnExactSameDependsUptoRow : OpenClaim := { program := "ytfbomhedhfkcpaa", sum := "38abb7dc55df6319b399d7bfc4d35b31e45110363669c4d6d20f343510697eaa", func := "loop.example/g00305/laws.FnExactSameDepends", spec := "fnExactSameDepends", unfollowed := true, recurses := true, apart := false, narrowed := true }
def FnExactSameDependsUptoSaid : Prop := fnExactSameDependsUptoRow.holds Try.pinned (OpenSpec.upto fnExactSameDependsSpec)

/-- 'laws.FnExactStartTableau', WHERE WHAT IT READS IS OF BULK AT MOST 1048576: true; the input reads as it did. -/
def fnExactStartTableauUptoRow : OpenClaim := { program := "ytfbomhedhfkcpaa", sum := "38abb7dc55df6319b399d7bfc4d35b31e45110363669c4d6d20f343510697eaa", func := "loop.example/g00305/laws.FnExactStartTableau", spec := "fnExactStartTableau", apart := false, narrowed := true }
def FnExactStartTableauUptoSaid : Prop := fnExactStartTableauUptoRow.holds Try.pinned (OpenSpec.upto fnExactStartTableauSpec)

/-- 'laws.FnExactWitnessFor', WHERE WHAT IT READS IS OF BULK AT MOST 1048576: true; the input reads as it did. -/
def fnExactWitnessForUptoRow : OpenClaim := { program := "ytfbomhedhfkcpaa", sum := "38abb7dc55df6319b399d7bfc4d35b31e45110363669c4d6d20f343510697eaa", func := "loop.example/g00305/laws.FnExactWitnessFor", spec := "fnExactWitnessFor", unfollowed := true, recurses := true, apart := false, narrowed := true }
def FnExactWitnessForUptoSaid : Prop := fnExactWitnessForUptoRow.holds Try.pinned (OpenSpec.upto fnExactWitnessForSpec)

end Rows
end Go.Proofs.Ytfbomhedhfkcpaa
