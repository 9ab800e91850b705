/- The plain law of GoodWindow: both functions answer alike. No conditions. -/
import Derived.Test.YtpbpglbldgpckaaHFnExactGoodWindow
import Derived.Test.YtpbpglbldgpckaaQWindowGood
namespace Go.Proofs.Ytpbpglbldgpckaa.Pure
open Go.RowKit Go.Proofs.Ytpbpglbldgpckaa.G Go.Proofs.Ytpbpglbldgpckaa.X Go.Proofs.YtpbpglbldgpckaaW.PrintWords Go.Proofs.Ytpbpglbldgpckaa.HFnExactGoodWindow
set_option linter.unusedVariables false

theorem FnExactGoodWindow : laws_FnExactGoodWindow.Pure := law fun x0 h0 => by
  have k0 : x0.f0.length ≤ 1048576 ∧ x0.f1.length ≤ 1048576 ∧ x0.f2.length ≤ 1048576 := by
    have := h0; unfold szvS53 at this; omega
  exact ⟨goodWindow x0.f0 x0.f1 x0.f2 x0.f3.f0 x0.f3.f1, window_spec _ _ _ _ _ k0.1 k0.2.2, window_impl _ _ _ _ _ k0.1 k0.2.1 k0.2.2⟩

end Go.Proofs.Ytpbpglbldgpckaa.Pure
