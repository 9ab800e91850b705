/- The plain law of Implies: both functions answer alike. No conditions. -/
import Derived.Test.YtfbomhedhfkcpaaHFnExactImplies
import Derived.Test.YtfbomhedhfkcpaaQClosure
import Derived.Test.YtfbomhedhfkcpaaG52
namespace Go.Proofs.Ytfbomhedhfkcpaa.Pure
open Go.RowKit Go.Proofs.Ytfbomhedhfkcpaa.G Go.Proofs.Ytfbomhedhfkcpaa.X Go.Proofs.YtfbomhedhfkcpaaW.PrintWords Go.Proofs.Ytfbomhedhfkcpaa.HFnExactImplies
set_option linter.unusedVariables false

theorem FnExactImplies : laws_FnExactImplies.Pure := law fun x0 h0 x1 h1 x2 h2 => by
  have k0 : x0.length + (x0.map fun y => y.f0.length + y.f1.length).sum ≤ 1048576 := h0
  have k2 : x2.f0.length + x2.f1.length ≤ 1048576 := h2
  have hs : ∀ d ∈ x0, shortD d := fun d hd => by have := sum_mem (fun y : S77 => y.f0.length + y.f1.length) x0 d hd; exact ⟨by omega, by omega⟩
  have hs2 : shortD x2 := ⟨by omega, by omega⟩
  have jt : Ev (fun k => impl_Implies.j0 k x0 true x2.f0 x2.f1) (false, false) := Ev.step (fun k => by rw [impl_Implies.j0]) (Ev.pos rfl (Ev.now _))
  by_cases hg : goodDepends x1 x0 = true
  · by_cases hd : dependB x1 x2 = true
    · obtain ⟨hn, hb⟩ := good_depends_below hg
      obtain ⟨b, e1, e2⟩ := implies_both x0 (by omega) hs hb x1 hn x2 hd hs2
      refine ⟨(b, true), ?_, ?_⟩
      · unfold spec_Implies.f
        exact Ev.bind (depends_spec _ _ (by omega) hs) (Ev.pos hg (Ev.bind (depend_spec _ _ hs2) (Ev.pos hd (Ev.bind e1 (Ev.now _)))))
      · unfold impl_Implies.f
        refine Ev.bind (depends_impl _ _ (by omega) hs) (Ev.pos hg (Ev.bind (depend_impl _ _ hs2) ?_))
        rw [hd]
        refine Ev.step (fun k => by rw [impl_Implies.j0]) (Ev.neg (by simp) ?_)
        exact Ev.bind (rulesOf_impl x0 (by omega) hs hb) (Ev.bind (ruleOf_impl x2 hs2 (depend_below hn hd)) (Ev.bind e2 (Ev.now _)))
    · refine ⟨(false, false), ?_, ?_⟩
      · unfold spec_Implies.f
        exact Ev.bind (depends_spec _ _ (by omega) hs) (Ev.pos hg (Ev.bind (depend_spec _ _ hs2) (Ev.neg hd (Ev.now _))))
      · unfold impl_Implies.f
        refine Ev.bind (depends_impl _ _ (by omega) hs) (Ev.pos hg (Ev.bind (depend_impl _ _ hs2) ?_))
        rw [Bool.eq_false_iff.mpr hd]
        exact jt
  · refine ⟨(false, false), ?_, ?_⟩
    · unfold spec_Implies.f
      exact Ev.bind (depends_spec _ _ (by omega) hs) (Ev.neg hg (Ev.now _))
    · unfold impl_Implies.f
      exact Ev.bind (depends_impl _ _ (by omega) hs) (Ev.neg hg jt)

end Go.Proofs.Ytfbomhedhfkcpaa.Pure
