/- The plain law of ReadsFrom: both functions answer alike. No conditions. -/
import Derived.Test.YtpbpglbldgpckaaHFnExactReadsFrom
import Derived.Test.YtpbpglbldgpckaaQSources
import Derived.Test.YtpbpglbldgpckaaG58
namespace Go.Proofs.Ytpbpglbldgpckaa.Pure
open Go.RowKit Go.Proofs.Ytpbpglbldgpckaa.G Go.Proofs.Ytpbpglbldgpckaa.X Go.Proofs.YtpbpglbldgpckaaW.PrintWords Go.Proofs.Ytpbpglbldgpckaa.HFnExactReadsFrom
set_option linter.unusedVariables false

theorem FnExactReadsFrom : laws_FnExactReadsFrom.Pure := law fun l hl => by
  by_cases hg : goodSteps l = true
  case neg =>
    refine ⟨([], [], false), ?_, ?_, by simp, by simp⟩
    · unfold spec_ReadsFrom.f; exact Ev.bind (goodSteps_spec l hl) (Ev.neg hg (Ev.now _))
    · unfold impl_ReadsFrom.f; exact Ev.cbind (goodSteps_impl l) (Ev.neg hg (Ev.now _))
  have hs := srcF_len l l.length
  refine ⟨(srcF l l.length, lastL l l.length, true), ?_, ?_, by show (srcF l l.length).length ≤ _; omega, by show (4 : Nat) ≤ _; omega⟩
  · unfold spec_ReadsFrom.f
    exact Ev.bind (goodSteps_spec l hl) (Ev.pos hg (reads_spec l hl l.length 0 (by omega)))
  · unfold impl_ReadsFrom.f
    exact Ev.cbind (goodSteps_impl l) (Ev.pos hg (Ev.bind (sources_impl l hl (goodSteps_all hg)) (Ev.now _)))

end Go.Proofs.Ytpbpglbldgpckaa.Pure
