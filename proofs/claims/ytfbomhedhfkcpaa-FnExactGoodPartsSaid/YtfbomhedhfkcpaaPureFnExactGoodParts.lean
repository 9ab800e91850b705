/- The plain law of GoodParts: both functions answer alike. No conditions. -/
import Derived.Test.YtfbomhedhfkcpaaHFnExactGoodParts
import Derived.Test.YtfbomhedhfkcpaaQParts
namespace Go.Proofs.Ytfbomhedhfkcpaa.Pure
open Go.RowKit Go.Proofs.Ytfbomhedhfkcpaa.G Go.Proofs.Ytfbomhedhfkcpaa.X Go.Proofs.YtfbomhedhfkcpaaW.PrintWords Go.Proofs.Ytfbomhedhfkcpaa.HFnExactGoodParts
set_option linter.unusedVariables false

theorem FnExactGoodParts : laws_FnExactGoodParts.Pure := law fun x0 h0 x1 h1 => by
  have k0 : x0.length + (x0.map fun y => y.length).sum ≤ 1048576 := h0
  have hl : ∀ p ∈ x0, p.length ≤ 1048576 := fun p hp => by have := sum_mem (fun y : List Int => y.length) x0 p hp; omega
  exact ⟨_, parts_spec x1 x0 k0 hl, parts_impl x1 x0 k0 hl⟩

end Go.Proofs.Ytfbomhedhfkcpaa.Pure
