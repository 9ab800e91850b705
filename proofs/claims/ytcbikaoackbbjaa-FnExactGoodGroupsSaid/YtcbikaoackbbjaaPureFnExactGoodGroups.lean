/- The plain law of GoodGroups: both functions answer alike. No conditions. -/
import Derived.Test.YtcbikaoackbbjaaHFnExactGoodGroups
import Derived.Test.YtcbikaoackbbjaaQGroups
namespace Go.Proofs.Ytcbikaoackbbjaa.Pure
open Go.RowKit Go.Proofs.Ytcbikaoackbbjaa.G Go.Proofs.Ytcbikaoackbbjaa.X Go.Proofs.YtcbikaoackbbjaaW.PrintWords Go.Proofs.Ytcbikaoackbbjaa.HFnExactGoodGroups
set_option linter.unusedVariables false

theorem FnExactGoodGroups : laws_FnExactGoodGroups.Pure := law fun x0 h0 => by
  have k0 : x0.length + (x0.map fun y => y.f0.f0.length).sum ≤ 1048576 := h0
  have hr := rd_keys x0 1048576 (fun y hy => by have := sum_mem (fun y : S119 => y.f0.f0.length) x0 y hy; omega)
  exact ⟨goodGroups x0, groups_spec _ (by omega) hr, groups_impl _ (by omega) hr⟩

end Go.Proofs.Ytcbikaoackbbjaa.Pure
