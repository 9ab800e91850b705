/- The plain law of ItemsIn: both functions answer alike. No conditions. -/
import Derived.Test.YtpbpglbldgpckaaHFnExactItemsIn
import Derived.Test.YtpbpglbldgpckaaQWindowGood
import Derived.Test.YtpbpglbldgpckaaQTurn
import Derived.Test.YtpbpglbldgpckaaG43
namespace Go.Proofs.Ytpbpglbldgpckaa.Pure
open Go.RowKit Go.Proofs.Ytpbpglbldgpckaa.G Go.Proofs.Ytpbpglbldgpckaa.X Go.Proofs.YtpbpglbldgpckaaW.PrintWords Go.Proofs.Ytpbpglbldgpckaa.HFnExactItemsIn
set_option linter.unusedVariables false

theorem FnExactItemsIn : laws_FnExactItemsIn.Pure := law fun x0 h0 => by
  have k0 : x0.f0.length ≤ 1048576 ∧ x0.f1.length ≤ 1048576 ∧ x0.f2.length ≤ 1048576 := by
    have := h0; unfold szvS53 at this; omega
  have h1 := window_spec x0.f0 x0.f1 x0.f2 x0.f3.f0 x0.f3.f1 k0.1 k0.2.2
  have h2 := window_impl x0.f0 x0.f1 x0.f2 x0.f3.f0 x0.f3.f1 k0.1 k0.2.1 k0.2.2
  by_cases hg : goodWindow x0.f0 x0.f1 x0.f2 x0.f3.f0 x0.f3.f1 = true
  · refine ⟨(x0.f0.reverse ++ x0.f2, true), ?_, ?_, by simp; omega⟩
    · unfold spec_ItemsIn.f spec_l17Items.f
      exact Ev.bind h1 (Ev.pos hg (Ev.seq (Ev.bind (turned _ k0.1) (Ev.pos (by simp; omega) (Ev.now _))) (Ev.now _)))
    · unfold impl_ItemsIn.f
      exact Ev.bind h2 (Ev.pos hg (Ev.cbind (cloneM _ k0.1) (Ev.bind (reverse_ev _ k0.1) (Ev.pos (by simp; omega) (Ev.now _)))))
  · refine ⟨([], false), ?_, ?_, by simp⟩
    · unfold spec_ItemsIn.f
      exact Ev.bind h1 (Ev.neg hg (Ev.now _))
    · unfold impl_ItemsIn.f
      exact Ev.bind h2 (Ev.neg hg (Ev.now _))

end Go.Proofs.Ytpbpglbldgpckaa.Pure
