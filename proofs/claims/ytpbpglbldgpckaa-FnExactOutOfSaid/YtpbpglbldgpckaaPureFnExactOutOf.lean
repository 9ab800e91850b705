/- The plain law of OutOf: both functions answer alike. No conditions. -/
import Derived.Test.YtpbpglbldgpckaaHFnExactOutOf
import Derived.Test.YtpbpglbldgpckaaQSinkGood
import Derived.Test.YtpbpglbldgpckaaG55
import Derived.Test.YtpbpglbldgpckaaG18
namespace Go.Proofs.Ytpbpglbldgpckaa.Pure
open Go.RowKit Go.Proofs.Ytpbpglbldgpckaa.G Go.Proofs.Ytpbpglbldgpckaa.X Go.Proofs.YtpbpglbldgpckaaW.PrintWords Go.Proofs.Ytpbpglbldgpckaa.HFnExactOutOf
set_option linter.unusedVariables false

theorem FnExactOutOf : laws_FnExactOutOf.Pure := law fun x0 h0 => by
  obtain ⟨src, At, pend, st, out, last, upto⟩ := x0
  have k0 : src.length ≤ 1048576 ∧ pend.length ≤ 1048576 ∧ out.length ≤ 1048576 ∧ st.length + (st.map fun y => y.f2.length).sum ≤ 1048576 := by
    have := h0; simp only [szvS34, szvLS130, szvS130] at this; omega
  dsimp only
  obtain ⟨b, hs, hi⟩ := sink_both src At pend st out last upto k0
  cases b with
  | true =>
    refine ⟨(out, wrap64 ((src.length : Int) - (out.length : Int)), true), ?_, ?_, by dsimp only; omega⟩
    · unfold spec_OutOf.f
      exact Ev.bind hs (Ev.pos rfl (Ev.cbind rfl (Ev.pos (by simp; omega) (Ev.eq (Ev.now _) (by simp)))))
    · unfold impl_OutOf.f
      refine Ev.bind hi (Ev.pos rfl (Ev.cbind ?_ (Ev.now _)))
      unfold slices_Clone_Lint_int.f
      exact if_pos (by omega)
  | false =>
    refine ⟨([], 0, false), ?_, ?_, by simp⟩
    · unfold spec_OutOf.f
      exact Ev.bind hs (Ev.neg (by simp) (Ev.now _))
    · unfold impl_OutOf.f
      exact Ev.bind hi (Ev.neg (by simp) (Ev.now _))

end Go.Proofs.Ytpbpglbldgpckaa.Pure
