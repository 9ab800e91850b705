/- The plain law of ComposeMaps: what its functions compute answers true. No conditions. -/
import Derived.Test.YtkikilacigglmaaG2
import Derived.Test.YtkikilacigglmaaQMap
namespace Go.Proofs.Ytkikilacigglmaa.Pure
open Go.RowKit Go.Proofs.Ytkikilacigglmaa.G Go.Proofs.YtkikilacigglmaaW.PrintWords Go.Proofs.YtkikilacigglmaaW.PrintLast

theorem FnExactComposeMaps : laws_FnExactComposeMaps.Pure := by
  intro x0 _ x1 _
  have h : impl_ComposeMaps.f x0.f0 x0.f1 x1.f0 x1.f1 = spec_ComposeMaps.f x0.f0 x0.f1 x1.f0 x1.f1 := by
    simp only [impl_ComposeMaps.f, spec_ComposeMaps.f, spec_l17Then.f, impl_Map_then.f, Option.bind_some, goodMap_spec, goodMap_impl, Int.mul_comm x1.f0 x0.f0]
  have hs : ∃ r, spec_ComposeMaps.f x0.f0 x0.f1 x1.f0 x1.f1 = some r := by
    simp only [spec_ComposeMaps.f, spec_l17Then.f, Option.bind_some, goodMap_spec]
    split
    · split <;> exact ⟨_, rfl⟩
    · exact ⟨_, rfl⟩
  obtain ⟨r, hr⟩ := hs
  simp only [laws_FnExactComposeMaps.f, laws_toMap.f, Option.bind_some, h, hr]
  simp [laws_eqMap.f]

end Go.Proofs.Ytkikilacigglmaa.Pure
