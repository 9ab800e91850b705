/- The plain law of CompareRows: both functions answer alike. No conditions. -/
import Derived.Test.YtcbikaoackbbjaaHFnExactCompareRows
import Derived.Test.YtcbikaoackbbjaaQCmp
import Derived.Test.YtcbikaoackbbjaaG12
namespace Go.Proofs.Ytcbikaoackbbjaa.Pure
open Go.RowKit Go.Proofs.Ytcbikaoackbbjaa.G Go.Proofs.Ytcbikaoackbbjaa.X Go.Proofs.YtcbikaoackbbjaaW.PrintWords Go.Proofs.Ytcbikaoackbbjaa.HFnExactCompareRows
set_option linter.unusedVariables false

theorem FnExactCompareRows : laws_FnExactCompareRows.Pure := law fun x0 h0 x1 h1 => by
  have k0 : x0.f0.length ≤ 1048576 := h0
  have k1 : x1.f0.length ≤ 1048576 := h1
  refine ⟨if goodRow x0.f0 = true then (if goodRow x1.f0 = true then (cmpL x0.f0 x1.f0, true) else (0, false)) else (0, false), ?_, ?_⟩
  · unfold spec_CompareRows.f
    exact Ev.bind (goodRow_spec _ (by omega)) (Ev.ite (fun _ => Ev.bind (goodRow_spec _ (by omega)) (Ev.ite (fun _ => Ev.bind (cmp_spec _ _ (by omega)) (Ev.now _)) (fun _ => Ev.now _))) (fun _ => Ev.now _))
  · unfold impl_CompareRows.f
    exact Ev.cbind (goodRow_impl _) (Ev.ite (fun _ => Ev.cbind (goodRow_impl _) (Ev.ite (fun _ => Ev.bind (cmp_impl _ _ (by omega)) (Ev.now _)) (fun _ => Ev.now _))) (fun _ => Ev.now _))

end Go.Proofs.Ytcbikaoackbbjaa.Pure
