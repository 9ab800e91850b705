/- The plain law of EmptyTable: both functions answer alike. No conditions. -/
import Derived.Test.YtcbikaoackbbjaaHFnExactEmptyTable
import Derived.Test.YtcbikaoackbbjaaG18
import Derived.Test.YtcbikaoackbbjaaG16
import Derived.Test.YtcbikaoackbbjaaG19
import Derived.Test.YtcbikaoackbbjaaG2
namespace Go.Proofs.Ytcbikaoackbbjaa.Pure
open Go.RowKit Go.Proofs.Ytcbikaoackbbjaa.G Go.Proofs.Ytcbikaoackbbjaa.X Go.Proofs.YtcbikaoackbbjaaW.PrintWords Go.Proofs.Ytcbikaoackbbjaa.HFnExactEmptyTable
set_option linter.unusedVariables false

theorem in_specE (a b c : Int) : spec_l1In.f a b c = some (decide (b ≤ a ∧ a ≤ c)) := by
  unfold spec_l1In.f
  by_cases h : a ≥ b
  · rw [if_pos h]; simp [h]
  · rw [if_neg h]; simp; omega
theorem in_implE (a b c : Int) : impl_within.f a b c = some (decide (b ≤ a ∧ a ≤ c)) := by
  unfold impl_within.f
  by_cases h : b ≤ a
  · rw [if_pos h]; simp [h]
  · rw [if_neg h]; simp [h]

theorem FnExactEmptyTable : laws_FnExactEmptyTable.Pure := law fun x0 h0 => by
  have hs : Ev (fun k => spec_GoodTable.f k x0 []) (decide (0 ≤ x0 ∧ x0 ≤ 6)) := by
    unfold spec_GoodTable.f
    refine Ev.step (fun k => by rw [spec_GoodTable.l0]) (Ev.neg (by simp) (Ev.cbind (in_specE _ _ _) ?_))
    by_cases h : 0 ≤ x0 ∧ x0 ≤ 6
    · exact Ev.pos (by simpa using h) (Ev.eq (Ev.now _) (by simp [h]))
    · exact Ev.neg (by simpa using h) (Ev.eq (Ev.now _) (by simp [h]))
  by_cases h : 0 ≤ x0 ∧ x0 ≤ 6
  · refine ⟨(x0, [], true), ?_, ?_, by simp [szvLS126]⟩
    · unfold spec_EmptyTable.f spec_l2Tell.f
      refine Ev.bind (a := (x0, [], true)) ?_ (Ev.now _)
      exact Ev.step (fun k => by rw [spec_l2Tell.l0]) (Ev.neg (by simp) (Ev.bind hs (Ev.pos (decide_eq_true h) (Ev.now _))))
    · unfold impl_EmptyTable.f impl_isColumns.f
      refine Ev.cbind (by rw [in_implE]; rfl) (Ev.pos (decide_eq_true h) (Ev.now _))
  · refine ⟨(0, [], false), ?_, ?_, by simp [szvLS126]⟩
    · unfold spec_EmptyTable.f spec_l2Tell.f
      refine Ev.bind (a := (0, [], false)) ?_ (Ev.now _)
      exact Ev.step (fun k => by rw [spec_l2Tell.l0]) (Ev.neg (by simp) (Ev.bind hs (Ev.neg (show ¬ (decide (0 ≤ x0 ∧ x0 ≤ 6) = true) by simpa using h) (Ev.now _))))
    · unfold impl_EmptyTable.f impl_isColumns.f
      refine Ev.cbind (by rw [in_implE]; rfl) (Ev.neg (show ¬ (decide (0 ≤ x0 ∧ x0 ≤ 6) = true) by simpa using h) (Ev.now _))

end Go.Proofs.Ytcbikaoackbbjaa.Pure
