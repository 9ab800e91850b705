/- The plain law of WindowSum: both functions answer alike. No conditions. -/
import Derived.Test.YtpbpglbldgpckaaHFnExactWindowSum
import Derived.Test.YtpbpglbldgpckaaQWindowGood
import Derived.Test.YtpbpglbldgpckaaG38
import Derived.Test.YtpbpglbldgpckaaG30
namespace Go.Proofs.Ytpbpglbldgpckaa.Pure
open Go.RowKit Go.Proofs.Ytpbpglbldgpckaa.G Go.Proofs.Ytpbpglbldgpckaa.X Go.Proofs.YtpbpglbldgpckaaW.PrintWords Go.Proofs.Ytpbpglbldgpckaa.HFnExactWindowSum
set_option linter.unusedVariables false

theorem FnExactWindowSum : laws_FnExactWindowSum.Pure := law fun x0 h0 => by
  have k0 : x0.f0.length ≤ 1048576 ∧ x0.f1.length ≤ 1048576 ∧ x0.f2.length ≤ 1048576 := by
    have := h0; unfold szvS53 at this; omega
  have hw : wrap64 ((x0.f1.length : Int) - 1) = (x0.f1.length : Int) - 1 := w64 (by omega) (by omega)
  have h1 := window_spec x0.f0 x0.f1 x0.f2 x0.f3.f0 x0.f3.f1 k0.1 k0.2.2
  have h2 := window_impl x0.f0 x0.f1 x0.f2 x0.f3.f0 x0.f3.f1 k0.1 k0.2.1 k0.2.2
  refine ⟨if goodWindow x0.f0 x0.f1 x0.f2 x0.f3.f0 x0.f3.f1 = true then (if (x0.f1.length : Int) > 0 then ((thenM (prM (rd_T51 x0.f1 ((x0.f1.length : Int) - 1))) (prM x0.f3)).1, (thenM (prM (rd_T51 x0.f1 ((x0.f1.length : Int) - 1))) (prM x0.f3)).2, true) else (x0.f3.f0, x0.f3.f1, true)) else (0, 0, false), ?_, ?_⟩
  · unfold spec_WindowSum.f
    rw [hw]
    exact Ev.bind h1 (Ev.ite (fun _ => Ev.ite (fun h => Ev.pos (by omega) (Ev.pos (by omega) (Ev.cbind (a := thenM (prM (rd_T51 x0.f1 ((x0.f1.length : Int) - 1))) (prM x0.f3)) rfl (Ev.now _)))) (fun _ => Ev.now _)) (fun _ => Ev.now _))
  · unfold impl_WindowSum.f
    refine Ev.bind h2 (Ev.ite (fun _ => ?_) (fun _ => Ev.now _))
    unfold impl_Window_sum.f
    rw [hw]
    by_cases h : (x0.f1.length : Int) > 0
    · rw [if_pos h, if_pos (show (x0.f1.length : Int) - 1 ≥ 0 by omega), if_pos (show 0 ≤ (x0.f1.length : Int) - 1 by omega), if_pos (show (x0.f1.length : Int) - 1 < (x0.f1.length : Int) by omega)]
      refine Ev.cbind (a := thenM (prM (rd_T51 x0.f1 ((x0.f1.length : Int) - 1))) (prM x0.f3)) ?_ (Ev.now _)
      have := then_impl_eq (prM (rd_T51 x0.f1 ((x0.f1.length : Int) - 1))) (prM x0.f3)
      unfold prM at this
      dsimp only at this
      rw [this]
      rfl
    · rw [if_neg h, if_neg (show ¬ (x0.f1.length : Int) - 1 ≥ 0 by omega)]
      exact Ev.cbind rfl (Ev.now _)

end Go.Proofs.Ytpbpglbldgpckaa.Pure
