/- The plain law of ApplyMap: what its functions compute answers true. No conditions. -/
import Derived.Test.YtkikilacigglmaaG1
import Derived.Test.YtkikilacigglmaaQMap
namespace Go.Proofs.Ytkikilacigglmaa.Pure
open Go.RowKit Go.Proofs.Ytkikilacigglmaa.G Go.Proofs.YtkikilacigglmaaW.PrintWords Go.Proofs.YtkikilacigglmaaW.PrintLast

theorem FnExactApplyMap : laws_FnExactApplyMap.Pure := by
  intro x0 _ x1 _
  have h : impl_ApplyMap.f x0.f0 x0.f1 x1 = spec_ApplyMap.f x0.f0 x0.f1 x1 := by
    simp only [impl_ApplyMap.f, spec_ApplyMap.f, impl_isRest.f, within_eq, l1In_eq, Option.bind_some, goodMap_spec, goodMap_impl]
  have hs : ∃ r, spec_ApplyMap.f x0.f0 x0.f1 x1 = some r := by
    simp only [spec_ApplyMap.f, l1In_eq, Option.bind_some, goodMap_spec]
    split
    · split <;> exact ⟨_, rfl⟩
    · exact ⟨_, rfl⟩
  obtain ⟨r, hr⟩ := hs
  simp only [laws_FnExactApplyMap.f, laws_toMap.f, Option.bind_some, h, hr]
  simp

end Go.Proofs.Ytkikilacigglmaa.Pure
