/- Rows compare as 0 only where they are one. No conditions. -/
import Derived.Test.YtmelechhnimlnadQCmp
namespace Go.Proofs.Ytmelechhnimlnad.Pure
open Go.RowKit Go.Proofs.Ytmelechhnimlnad.G Go.Proofs.Ytmelechhnimlnad.X Go.Proofs.YtmelechhnimlnadW.PrintWords Go.Proofs.YtmelechhnimlnadW.PrintLast
set_option linter.unusedVariables false
set_option linter.unusedSimpArgs false

theorem cmpL_zero : ∀ a b : List Int, (cmpL a b == 0) = decide (a = b)
  | [], [] => rfl
  | [], _ :: _ => by simp [cmpL]
  | _ :: _, [] => by simp [cmpL]
  | x :: xs, y :: ys => by
    unfold cmpL
    by_cases h1 : x < y
    · rw [if_pos h1]
      have : ¬ x = y := by omega
      simp [this]
    · by_cases h2 : x > y
      · rw [if_neg h1, if_pos h2]
        have : ¬ x = y := by omega
        simp [this]
      · rw [if_neg h1, if_neg h2, cmpL_zero xs ys]
        have : x = y := by omega
        simp [this]
theorem cmp0 {a b : List Int} : cmpL a b = 0 ↔ a = b := by
  have h := cmpL_zero a b
  refine ⟨fun e => ?_, fun e => ?_⟩
  · rw [e] at h; simpa using h.symm
  · subst e; simpa using h

end Go.Proofs.Ytmelechhnimlnad.Pure
