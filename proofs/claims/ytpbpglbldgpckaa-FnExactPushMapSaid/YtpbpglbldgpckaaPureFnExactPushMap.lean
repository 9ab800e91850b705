/- The plain law of PushMap: both functions answer alike. No conditions. -/
import Derived.Test.YtpbpglbldgpckaaHFnExactPushMap
import Derived.Test.YtpbpglbldgpckaaQWindowGood
import Derived.Test.YtpbpglbldgpckaaG8
import Derived.Test.YtpbpglbldgpckaaG12
import Derived.Test.YtpbpglbldgpckaaG11
import Derived.Test.YtpbpglbldgpckaaG7
namespace Go.Proofs.Ytpbpglbldgpckaa.Pure
open Go.RowKit Go.Proofs.Ytpbpglbldgpckaa.G Go.Proofs.Ytpbpglbldgpckaa.X Go.Proofs.YtpbpglbldgpckaaW.PrintWords Go.Proofs.YtpbpglbldgpckaaW.PrintLast Go.Proofs.Ytpbpglbldgpckaa.HFnExactPushMap
set_option linter.unusedVariables false

abbrev SM := S51
theorem own_spec (x y z : List SM) (a b : Int) (hx : x.length ≤ 1048576) (hy : y.length ≤ 1048576) (hz : z.length ≤ 1048576) : spec_l17Own.f x y z a b = some (x, y, z, a, b) := by
  simp only [spec_l17Own.f, Option.bind_some, List.length_nil, List.nil_append]
  rw [if_pos (by omega), if_pos (by omega), if_pos (by omega)]
theorem own_impl (x y z : List SM) (a b : Int) (hx : x.length ≤ 1048577) (hy : y.length ≤ 1048577) (hz : z.length ≤ 1048577) : impl_Window_own.f x y z a b = some (x, y, z, a, b) := by
  have cl : ∀ (x : List SM), x.length ≤ 1048577 → slices_Clone_Limpl_Map_impl_Map.f x = some x := fun x h => by
    unfold slices_Clone_Limpl_Map_impl_Map.f
    rw [if_pos (by omega)]
  simp only [impl_Window_own.f, cl x hx, cl y hy, cl z hz, Option.bind_some]
theorem core : Core := by
  intro x0 hw x1
  have h0 : x0.f0.length ≤ 1048576 := by unfold szvS53 at hw; omega
  have h1 : x0.f1.length ≤ 1048576 := by unfold szvS53 at hw; omega
  have h2 : x0.f2.length ≤ 1048576 := by unfold szvS53 at hw; omega
  have hs := window_spec x0.f0 x0.f1 x0.f2 x0.f3.f0 x0.f3.f1 h0 h2
  have hi := window_impl x0.f0 x0.f1 x0.f2 x0.f3.f0 x0.f3.f1 h0 h1 h2
  have no : ∀ (k : Nat), spec_PushMap.j0 (k + 1) true x0.f0 x0.f1 x0.f2 x0.f3.f0 x0.f3.f1 x1.f0 x1.f1 = some (([] : List SM), ([] : List SM), ([] : List SM), 0, 0, false) := fun k => by rw [spec_PushMap.j0, if_pos rfl]
  unfold spec_PushMap.f impl_PushMap.f
  by_cases g : goodWindow x0.f0 x0.f1 x0.f2 x0.f3.f0 x0.f3.f1 = true
  case neg =>
    exact ⟨([], [], [], 0, 0, false), Ev.bind hs (Ev.neg g (Ev.step no (Ev.now _))), Ev.bind hi (Ev.neg g (Ev.now _)), by simp, by simp, by simp⟩
  have gs := goodMap_spec x1.f0 x1.f1
  have gi := goodMap_impl x1.f0 x1.f1
  by_cases m : decide (0 ≤ x1.f0 ∧ x1.f0 ≤ 1008 ∧ 0 ≤ x1.f1 ∧ x1.f1 ≤ 1008) = true
  case neg =>
    exact ⟨([], [], [], 0, 0, false), Ev.bind hs (Ev.pos g (Ev.cbind gs (Ev.neg m (Ev.step no (Ev.now _))))), Ev.bind hi (Ev.pos g (Ev.cbind gi (Ev.neg m (Ev.now _)))), by simp, by simp, by simp⟩
  by_cases e : (wrap64 ((x0.f0.length : Int) + (x0.f2.length : Int)) == 60) = true
  · refine ⟨([], [], [], 0, 0, false), Ev.bind hs (Ev.pos g (Ev.cbind gs (Ev.pos m ?_))), Ev.bind hi (Ev.pos g (Ev.cbind gi (Ev.pos m (Ev.pos e (Ev.now _))))), by simp, by simp, by simp⟩
    rw [e]
    exact Ev.step no (Ev.now _)
  · have th : spec_l17Then.f x0.f3.f0 x0.f3.f1 x1.f0 x1.f1 = some (thenM (prM x0.f3) (prM x1)) := rfl
    have ti : impl_Map_then.f x0.f3.f0 x0.f3.f1 x1.f0 x1.f1 = some (thenM (prM x0.f3) (prM x1)) := then_impl_eq (prM x0.f3) (prM x1)
    refine ⟨(x0.f0, x0.f1, x0.f2 ++ [x1], (thenM (prM x0.f3) (prM x1)).1, (thenM (prM x0.f3) (prM x1)).2, true), Ev.bind hs (Ev.pos g (Ev.cbind gs (Ev.pos m ?_))), Ev.bind hi (Ev.pos g (Ev.cbind gi (Ev.pos m (Ev.neg e ?_)))), by show x0.f0.length ≤ _; omega, by show x0.f1.length ≤ _; omega, by show (x0.f2 ++ [x1]).length ≤ _; rw [List.length_append]; show x0.f2.length + 1 ≤ _; omega⟩
    · refine Ev.step (fun k => by rw [spec_PushMap.j0]) (Ev.neg e ?_)
      refine Ev.cbind (own_spec x0.f0 x0.f1 x0.f2 x0.f3.f0 x0.f3.f1 h0 h1 h2) ?_
      refine Ev.pos (by show x0.f2.length < _; omega) ?_
      exact Ev.cbind th (Ev.now _)
    · refine Ev.cbind (own_impl x0.f0 x0.f1 x0.f2 x0.f3.f0 x0.f3.f1 (by omega) (by omega) (by omega)) ?_
      refine Ev.pos (by show x0.f2.length < _; omega) ?_
      refine Ev.cbind ti ?_
      exact (Ev.cbind (own_impl x0.f0 x0.f1 (x0.f2 ++ [x1]) _ _ (by omega) (by omega) (by rw [List.length_append]; show x0.f2.length + 1 ≤ _; omega)) (Ev.now _))
theorem FnExactPushMap : laws_FnExactPushMap.Pure := law core
end Go.Proofs.Ytpbpglbldgpckaa.Pure
