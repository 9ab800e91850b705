/- The plain law of NewSink: both functions answer alike. No conditions. -/
import Derived.Test.YtpbpglbldgpckaaHFnExactNewSink
import Derived.Test.YtpbpglbldgpckaaG15
import Derived.Test.YtpbpglbldgpckaaG18
namespace Go.Proofs.Ytpbpglbldgpckaa.Pure
open Go.RowKit Go.Proofs.Ytpbpglbldgpckaa.G Go.Proofs.Ytpbpglbldgpckaa.X Go.Proofs.YtpbpglbldgpckaaW.PrintWords Go.Proofs.Ytpbpglbldgpckaa.HFnExactNewSink
set_option linter.unusedVariables false

theorem FnExactNewSink : laws_FnExactNewSink.Pure := law fun x0 h0 => by
  by_cases hg : (x0.length : Int) > 30
  · refine ⟨([], 0, [], [], [], 0, 0, false), ?_, ?_, by simp, by simp, by simp [szvLS130], by simp⟩
    · exact Ev.const (by unfold spec_NewSink.f; rw [if_pos hg])
    · exact Ev.const (by unfold impl_NewSink.f; rw [if_pos hg])
  · refine ⟨(x0, 0, [], [], [], 0, 0, true), ?_, ?_, by simp; omega, by simp, by simp [szvLS130], by simp⟩
    · refine Ev.const ?_
      unfold spec_NewSink.f
      rw [if_neg hg]
      show (if ([] : List Int).length + x0.length < 17592186044416 then _ else _) = _
      rw [if_pos (by simp; omega)]
      rfl
    · refine Ev.const ?_
      unfold impl_NewSink.f slices_Clone_Lint_int.f
      rw [if_neg hg, if_pos (by omega)]
      rfl

end Go.Proofs.Ytpbpglbldgpckaa.Pure
