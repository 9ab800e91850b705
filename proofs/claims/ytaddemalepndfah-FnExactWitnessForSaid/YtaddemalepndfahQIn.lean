/- Whether a number lies between two: both ask the same. No conditions. -/
import Derived.Test.YtaddemalepndfahG1
import Derived.Test.YtaddemalepndfahG9
import Derived.Test.YtaddemalepndfahQBase
namespace Go.Proofs.Ytaddemalepndfah.Pure
open Go.RowKit Go.Proofs.Ytaddemalepndfah.G Go.Proofs.Ytaddemalepndfah.X Go.Proofs.YtaddemalepndfahW.PrintWords Go.Proofs.YtaddemalepndfahW.PrintLast
set_option linter.unusedVariables false

theorem in_spec (a b c : Int) : spec_l1In.f a b c = some (decide (b ≤ a ∧ a ≤ c)) := by
  unfold spec_l1In.f
  by_cases h : a ≥ b
  · rw [if_pos h]; simp [h]
  · rw [if_neg h]; simp; omega
theorem in_impl (a b c : Int) : impl_within.f a b c = some (decide (b ≤ a ∧ a ≤ c)) := by
  unfold impl_within.f
  by_cases h : b ≤ a
  · rw [if_pos h]; simp [h]
  · rw [if_neg h]; simp [h]

end Go.Proofs.Ytaddemalepndfah.Pure
