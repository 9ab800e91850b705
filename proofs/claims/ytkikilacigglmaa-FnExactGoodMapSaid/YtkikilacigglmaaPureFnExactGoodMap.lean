/- The plain law of GoodMap: what its functions compute answers true. No conditions. -/
import Derived.Test.YtkikilacigglmaaG1
import Derived.Test.YtkikilacigglmaaQMap
namespace Go.Proofs.Ytkikilacigglmaa.Pure
open Go.RowKit Go.Proofs.Ytkikilacigglmaa.G Go.Proofs.YtkikilacigglmaaW.PrintWords Go.Proofs.YtkikilacigglmaaW.PrintLast

theorem FnExactGoodMap : laws_FnExactGoodMap.Pure := by
  intro x0 _
  simp only [laws_FnExactGoodMap.f, laws_toMap.f, Option.bind_some, goodMap_spec, goodMap_impl]
  simp

end Go.Proofs.Ytkikilacigglmaa.Pure
