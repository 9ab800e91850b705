/- The plain law of WeightOf: both functions answer alike. No conditions. -/
import Derived.Test.YtcbikaoackbbjaaHFnExactWeightOf
import Derived.Test.YtcbikaoackbbjaaQSearch
import Derived.Test.YtcbikaoackbbjaaG45
import Derived.Test.YtcbikaoackbbjaaG46
namespace Go.Proofs.Ytcbikaoackbbjaa.Pure
open Go.RowKit Go.Proofs.Ytcbikaoackbbjaa.G Go.Proofs.Ytcbikaoackbbjaa.X Go.Proofs.YtcbikaoackbbjaaW.PrintWords Go.Proofs.Ytcbikaoackbbjaa.HFnExactWeightOf
set_option linter.unusedVariables false

theorem FnExactWeightOf : laws_FnExactWeightOf.Pure := law fun x0 h0 x1 h1 => by
  have k0 : x0.f1.length + (x0.f1.map fun y => y.f0.f0.length).sum ≤ 1048576 := h0
  have k1 : x1.f0.length ≤ 1048576 := h1
  have hr := rd_rows x0.f1 1048576 (fun y hy => by have := sum_mem (fun y : S126 => y.f0.f0.length) x0.f1 y hy; omega)
  have hs := table_spec x0.f0 x0.f1 (by omega) hr
  have hi := table_impl x0.f0 x0.f1 (by omega) hr
  by_cases hg : goodTable x0.f0 x0.f1 = true
  case neg =>
    refine ⟨(0, false), ?_, ?_⟩
    · unfold spec_WeightOf.f; exact Ev.bind hs (Ev.neg hg (Ev.now _))
    · unfold impl_WeightOf.f; exact Ev.bind hi (Ev.neg hg (Ev.now _))
  by_cases hrow : goodRow x1.f0 = true
  case neg =>
    refine ⟨(0, false), ?_, ?_⟩
    · unfold spec_WeightOf.f; exact Ev.bind hs (Ev.pos hg (Ev.bind (goodRow_spec _ (by omega)) (Ev.neg hrow (Ev.now _))))
    · unfold impl_WeightOf.f; exact Ev.bind hi (Ev.pos hg (Ev.cbind (isRowOf_eq _ _) (Ev.neg (by simp [hrow]) (Ev.now _))))
  by_cases hc : (x1.f0.length : Int) = x0.f0
  case neg =>
    refine ⟨(0, false), ?_, ?_⟩
    · unfold spec_WeightOf.f; exact Ev.bind hs (Ev.pos hg (Ev.bind (goodRow_spec _ (by omega)) (Ev.pos hrow (Ev.neg hc (Ev.now _)))))
    · unfold impl_WeightOf.f; exact Ev.bind hi (Ev.pos hg (Ev.cbind (isRowOf_eq _ _) (Ev.neg (by simp [hc]) (Ev.now _))))
  obtain ⟨v, hv, hw⟩ := weight_both hg x1.f0 (by omega) hr
  refine ⟨(v, true), ?_, ?_⟩
  · unfold spec_WeightOf.f
    exact Ev.bind hs (Ev.pos hg (Ev.bind (goodRow_spec _ (by omega)) (Ev.pos hrow (Ev.pos hc (Ev.bind hv (Ev.now _))))))
  · unfold impl_WeightOf.f
    exact Ev.bind hi (Ev.pos hg (Ev.cbind (isRowOf_eq _ _) (Ev.pos (by simp [hrow, hc]) (Ev.bind hw (Ev.now _)))))

end Go.Proofs.Ytcbikaoackbbjaa.Pure
