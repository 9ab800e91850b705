/- The plain laws of maps: both functions answer alike. No conditions. -/
import Derived.Test.YtpbpglbldgpckaaG5
import Derived.Test.YtpbpglbldgpckaaG9
namespace Go.Proofs.Ytpbpglbldgpckaa.Pure
open Go.RowKit Go.Proofs.Ytpbpglbldgpckaa.G Go.Proofs.YtpbpglbldgpckaaW.PrintWords Go.Proofs.YtpbpglbldgpckaaW.PrintLast
set_option linter.unusedVariables false

theorem l1In_eq (a b c : Int) : spec_l1In.f a b c = some (decide (b ≤ a ∧ a ≤ c)) := by
  unfold spec_l1In.f
  by_cases h : a ≥ b
  · rw [if_pos h]; simp [h]
  · rw [if_neg h]; simp; omega
theorem within_eq (a b c : Int) : impl_within.f a b c = some (decide (b ≤ a ∧ a ≤ c)) := by
  unfold impl_within.f
  by_cases h : b ≤ a
  · rw [if_pos h]; simp [h]
  · rw [if_neg h]; simp [h]
theorem goodMap_spec (a b : Int) : spec_GoodMap.f a b = some (decide (0 ≤ a ∧ a ≤ 1008 ∧ 0 ≤ b ∧ b ≤ 1008)) := by
  simp only [spec_GoodMap.f, l1In_eq, Option.bind_some]
  by_cases h : 0 ≤ a ∧ a ≤ 1008
  · simp [h]
  · rw [if_neg (by simpa using h)]; simp; omega
theorem goodMap_impl (a b : Int) : impl_GoodMap.f a b = some (decide (0 ≤ a ∧ a ≤ 1008 ∧ 0 ≤ b ∧ b ≤ 1008)) := by
  simp only [impl_GoodMap.f, impl_isRest.f, within_eq, Option.bind_some]
  by_cases h : 0 ≤ a ∧ a ≤ 1008
  · simp [h]
  · rw [if_neg (by simpa using h)]; simp; omega

end Go.Proofs.Ytpbpglbldgpckaa.Pure
