/- The plain law of GoodSnap: both functions answer alike. No conditions. -/
import Derived.Test.YtpbpglbldgpckaaHFnExactGoodSnap
import Derived.Test.YtpbpglbldgpckaaQSnap
namespace Go.Proofs.Ytpbpglbldgpckaa.Pure
open Go.RowKit Go.Proofs.Ytpbpglbldgpckaa.G Go.Proofs.Ytpbpglbldgpckaa.X Go.Proofs.YtpbpglbldgpckaaW.PrintWords Go.Proofs.Ytpbpglbldgpckaa.HFnExactGoodSnap
set_option linter.unusedVariables false

theorem FnExactGoodSnap : laws_FnExactGoodSnap.Pure := law fun x0 h0 => by
  have k0 : x0.f1.length + (x0.f1.map fun y => y.f0.length + y.f1.length).sum ≤ 1048576 := by
    have := h0; unfold szvS85 at this
    have e : (x0.f1.map fun y => szvS140 y) = (x0.f1.map fun y => y.f0.length + y.f1.length) := rfl
    simp only [szvLS140, e] at this
    omega
  have hl : ∀ w ∈ x0.f1, w.f0.length ≤ 1048576 ∧ w.f1.length ≤ 1048576 := fun w hw => by have := sum_mem (fun y : S140 => y.f0.length + y.f1.length) x0.f1 w hw; exact ⟨by omega, by omega⟩
  exact ⟨goodSnap x0.f0 x0.f1, snap_spec _ _ (by unfold remW; omega) hl (by omega), snap_impl _ _ (by unfold remW; omega) hl (by omega)⟩

end Go.Proofs.Ytpbpglbldgpckaa.Pure
