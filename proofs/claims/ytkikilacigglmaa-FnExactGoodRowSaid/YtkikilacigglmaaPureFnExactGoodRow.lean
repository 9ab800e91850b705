/- The plain law of GoodRow: both functions answer alike. No conditions. -/
import Derived.Test.YtkikilacigglmaaHFnExactGoodRow
import Derived.Test.YtkikilacigglmaaQRow
namespace Go.Proofs.Ytkikilacigglmaa.Pure
open Go.RowKit Go.Proofs.Ytkikilacigglmaa.G Go.Proofs.Ytkikilacigglmaa.HFnExactGoodRow

theorem FnExactGoodRow : laws_FnExactGoodRow.Pure := law fun x0 h =>
  ⟨_, goodRow_spec x0.f0 (by unfold szvS41 at h; omega), Go.Proofs.Ytkikilacigglmaa.Pure.Ev.const (goodRow_impl x0.f0)⟩

end Go.Proofs.Ytkikilacigglmaa.Pure
