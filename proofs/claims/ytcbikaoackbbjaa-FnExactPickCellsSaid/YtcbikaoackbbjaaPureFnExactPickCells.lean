/- The plain law of PickCells: both functions answer alike. No conditions. -/
import Derived.Test.YtcbikaoackbbjaaHFnExactPickCells
import Derived.Test.YtcbikaoackbbjaaQPick
import Derived.Test.YtcbikaoackbbjaaG3
namespace Go.Proofs.Ytcbikaoackbbjaa.Pure
open Go.RowKit Go.Proofs.Ytcbikaoackbbjaa.G Go.Proofs.Ytcbikaoackbbjaa.X Go.Proofs.YtcbikaoackbbjaaW.PrintWords Go.Proofs.Ytcbikaoackbbjaa.HFnExactPickCells
set_option linter.unusedVariables false

theorem FnExactPickCells : laws_FnExactPickCells.Pure := law fun x0 h0 x1 h1 => by
  have k0 : x0.f0.length ≤ 1048576 := h0
  refine ⟨if goodRow x0.f0 = true then (if colsB (x0.f0.length : Int) x1 = true then (x1.map (rd x0.f0), true) else ([], false)) else ([], false), ?_, ?_, ?_⟩
  · unfold spec_PickCells.f
    refine Ev.bind (goodRow_spec _ (by omega)) (Ev.ite (fun _ => Ev.bind (cols_spec _ _ (by omega)) (Ev.ite (fun hc => ?_) (fun _ => Ev.now _))) (fun _ => Ev.now _))
    exact Ev.bind (pick_spec _ _ h1 (colsB_mem hc).2) (Ev.now _)
  · unfold impl_PickCells.f
    refine Ev.cbind (goodRow_impl _) (Ev.ite (fun _ => Ev.cbind (cols_impl _ _) (Ev.ite (fun hc => ?_) (fun _ => Ev.now _))) (fun _ => Ev.now _))
    exact Ev.bind (pick_impl _ _ h1 (colsB_mem hc).2) (Ev.now _)
  · split <;> (try split) <;> simp <;> omega

end Go.Proofs.Ytcbikaoackbbjaa.Pure
