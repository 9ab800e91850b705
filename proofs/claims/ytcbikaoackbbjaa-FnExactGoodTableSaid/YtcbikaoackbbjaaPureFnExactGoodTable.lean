/- The plain law of GoodTable: both functions answer alike. No conditions. -/
import Derived.Test.YtcbikaoackbbjaaHFnExactGoodTable
import Derived.Test.YtcbikaoackbbjaaQTable
namespace Go.Proofs.Ytcbikaoackbbjaa.Pure
open Go.RowKit Go.Proofs.Ytcbikaoackbbjaa.G Go.Proofs.Ytcbikaoackbbjaa.X Go.Proofs.YtcbikaoackbbjaaW.PrintWords Go.Proofs.Ytcbikaoackbbjaa.HFnExactGoodTable
set_option linter.unusedVariables false

theorem FnExactGoodTable : laws_FnExactGoodTable.Pure := law fun x0 h0 => by
  have k0 : x0.f1.length + (x0.f1.map fun y => y.f0.f0.length).sum ≤ 1048576 := h0
  have hr := rd_rows x0.f1 1048576 (fun y hy => by have := sum_mem (fun y : S126 => y.f0.f0.length) x0.f1 y hy; omega)
  exact ⟨goodTable x0.f0 x0.f1, table_spec _ _ (by omega) hr, table_impl _ _ (by omega) hr⟩

end Go.Proofs.Ytcbikaoackbbjaa.Pure
