/- The plain law of GoodDepends: both functions answer alike. No conditions. -/
import Derived.Test.YtfbomhedhfkcpaaHFnExactGoodDepends
import Derived.Test.YtfbomhedhfkcpaaQDepend
namespace Go.Proofs.Ytfbomhedhfkcpaa.Pure
open Go.RowKit Go.Proofs.Ytfbomhedhfkcpaa.G Go.Proofs.Ytfbomhedhfkcpaa.X Go.Proofs.YtfbomhedhfkcpaaW.PrintWords Go.Proofs.Ytfbomhedhfkcpaa.HFnExactGoodDepends
set_option linter.unusedVariables false

theorem FnExactGoodDepends : laws_FnExactGoodDepends.Pure := law fun x0 h0 x1 h1 => by
  have k0 : x0.length + (x0.map fun y => y.f0.length + y.f1.length).sum ≤ 1048576 := h0
  have hs : ∀ d ∈ x0, shortD d := fun d hd => by have := sum_mem (fun y : S77 => y.f0.length + y.f1.length) x0 d hd; exact ⟨by omega, by omega⟩
  exact ⟨goodDepends x1 x0, depends_spec _ _ (by omega) hs, depends_impl _ _ (by omega) hs⟩

end Go.Proofs.Ytfbomhedhfkcpaa.Pure
