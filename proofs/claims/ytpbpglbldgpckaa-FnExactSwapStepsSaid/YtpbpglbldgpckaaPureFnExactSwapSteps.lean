/- The plain law of SwapSteps: both functions answer alike. No conditions. -/
import Derived.Test.YtpbpglbldgpckaaHFnExactSwapSteps
import Derived.Test.YtpbpglbldgpckaaQSteps
import Derived.Test.YtpbpglbldgpckaaG8
import Derived.Test.YtpbpglbldgpckaaG10
import Derived.Test.YtpbpglbldgpckaaG7
import Derived.Test.YtpbpglbldgpckaaG9
import Derived.Test.YtpbpglbldgpckaaG13
namespace Go.Proofs.Ytpbpglbldgpckaa.Pure
open Go.RowKit Go.Proofs.Ytpbpglbldgpckaa.G Go.Proofs.Ytpbpglbldgpckaa.X Go.Proofs.YtpbpglbldgpckaaW.PrintWords Go.Proofs.Ytpbpglbldgpckaa.HFnExactSwapSteps
set_option linter.unusedVariables false

theorem swap_eq {α : Type} : ∀ (l : List α) (n : Nat) (h : n + 1 < l.length), (l.set n l[n + 1]).set (n + 1) (l[n]'(by omega)) = l.take n ++ [l[n + 1], l[n]'(by omega)] ++ l.drop (n + 2)
  | [], _, h => by simp at h
  | [x], _, h => by simp at h
  | x :: y :: ys, 0, _ => rfl
  | x :: y :: ys, n + 1, h => by
    have := swap_eq (y :: ys) n (by simpa using h)
    show x :: (((y :: ys).set n _).set (n + 1) _) = x :: ((y :: ys).take n ++ _ ++ (y :: ys).drop (n + 2))
    exact congrArg _ this
def clashB (a b : S111) : Bool := if a.f0 = b.f0 then false else if a.f2 = b.f2 then (if a.f1 = 2 then true else b.f1 == 2) else false
theorem clash_spec (a b : S111) : spec_l13Clash.f a.f0 a.f1 a.f2 b.f0 b.f1 b.f2 = some (clashB a b) := by
  unfold spec_l13Clash.f clashB
  split
  · rfl
  · split
    · split <;> rfl
    · rfl
theorem clash_impl (a b : S111) : impl_clash.f a.f0 a.f1 a.f2 b.f0 b.f1 b.f2 = some (clashB a b) := by
  unfold impl_clash.f clashB
  split
  · rfl
  · split
    · split <;> rfl
    · rfl

theorem FnExactSwapSteps : laws_FnExactSwapSteps.Pure := law fun l h0 a h1 => by
  have hl : l.length ≤ 1048576 := h0
  have js : Ev (fun k => spec_SwapSteps.j0 k l a true) ([], false) := Ev.step (fun k => by rw [spec_SwapSteps.j0]) (Ev.pos rfl (Ev.now _))
  have ji : Ev (fun k => impl_SwapSteps.j0 k l a true) ([], false) := Ev.step (fun k => by rw [impl_SwapSteps.j0]) (Ev.pos rfl (Ev.now _))
  have no : (([] : List S111), false).1.length ≤ 1099511627776 := by simp
  by_cases hg : goodSteps l = true
  case neg =>
    refine ⟨([], false), ?_, ?_, no⟩
    · unfold spec_SwapSteps.f; exact Ev.bind (goodSteps_spec l hl) (Ev.neg hg js)
    · unfold impl_SwapSteps.f; exact Ev.cbind (goodSteps_impl l) (Ev.neg hg ji)
  have h40 := goodSteps_len hg
  have hin : ∀ x b c : Int, impl_within.f x b c = some (decide (b ≤ x ∧ x ≤ c)) := stepIn_impl
  by_cases hr : 0 ≤ a ∧ a < (l.length : Int) - 1
  case neg =>
    refine ⟨([], false), ?_, ?_, no⟩
    · unfold spec_SwapSteps.f
      refine Ev.bind (goodSteps_spec l hl) (Ev.pos hg ?_)
      rw [w64 (x := (l.length : Int) - 1) (by omega) (by omega)]
      by_cases h2 : a < 0
      · exact Ev.pos h2 js
      · exact Ev.neg h2 (Ev.pos (by omega) js)
    · unfold impl_SwapSteps.f
      refine Ev.cbind (goodSteps_impl l) (Ev.pos hg (Ev.cbind (hin _ _ _) ?_))
      rw [w64 (x := (l.length : Int) - 2) (by omega) (by omega)]
      exact Ev.neg (by simp; omega) ji
  obtain ⟨hr0, hr1⟩ := hr
  obtain ⟨n, rfl⟩ : ∃ n : Nat, a = (n : Int) := ⟨a.toNat, by omega⟩
  have hn : n + 1 < l.length := by omega
  have w1 : wrap64 ((n : Int) + 1) = ((n + 1 : Nat) : Int) := by rw [w64 (by omega) (by omega)]; rfl
  have w2 : wrap64 ((n : Int) + 2) = ((n + 2 : Nat) : Int) := by rw [w64 (by omega) (by omega)]; rfl
  have r0 := rdSt_lt (l := l) (i := n) (by omega)
  have r1 := rdSt_lt (l := l) (i := n + 1) hn
  -- the two walks up to the join
  have s1 : ∀ v, (∀ b : Bool, b = (if (l[n]'(by omega)).f0 = l[n + 1].f0 then true else clashB (l[n]'(by omega)) l[n + 1]) → Ev (fun k => spec_SwapSteps.j0 k l (n : Int) b) v) → Ev (fun k => spec_SwapSteps.f k l (n : Int)) v := by
    intro v hv
    unfold spec_SwapSteps.f
    refine Ev.bind (goodSteps_spec l hl) (Ev.pos hg ?_)
    rw [w64 (x := (l.length : Int) - 1) (by omega) (by omega), w1, r0, r1]
    refine Ev.neg (by omega) (Ev.neg (by omega) (Ev.pos (by omega) (Ev.pos (by omega) (Ev.pos (by omega) (Ev.pos (by omega) ?_)))))
    by_cases h3 : (l[n]'(by omega)).f0 = l[n + 1].f0
    · exact Ev.pos h3 (hv true (by rw [if_pos h3]))
    · exact Ev.neg h3 (Ev.cbind (clash_spec _ _) (hv _ (by rw [if_neg h3])))
  have s2 : ∀ v, (∀ b : Bool, b = (if (l[n]'(by omega)).f0 = l[n + 1].f0 then true else clashB (l[n]'(by omega)) l[n + 1]) → Ev (fun k => impl_SwapSteps.j0 k l (n : Int) b) v) → Ev (fun k => impl_SwapSteps.f k l (n : Int)) v := by
    intro v hv
    unfold impl_SwapSteps.f
    refine Ev.cbind (goodSteps_impl l) (Ev.pos hg (Ev.cbind (hin _ _ _) ?_))
    rw [w64 (x := (l.length : Int) - 2) (by omega) (by omega), w1, r0, r1]
    refine Ev.pos (by simp; omega) (Ev.pos (by omega) (Ev.pos (by omega) (Ev.pos (by omega) (Ev.pos (by omega) ?_))))
    by_cases h3 : (l[n]'(by omega)).f0 = l[n + 1].f0
    · exact Ev.pos h3 (hv true (by rw [if_pos h3]))
    · exact Ev.neg h3 (Ev.cbind (clash_impl _ _) (hv _ (by rw [if_neg h3])))
  generalize hb : (if (l[n]'(by omega)).f0 = l[n + 1].f0 then true else clashB (l[n]'(by omega)) l[n + 1]) = b at s1 s2
  cases b with
  | true => exact ⟨([], false), s1 _ (fun b e => by rw [e]; exact js), s2 _ (fun b e => by rw [e]; exact ji), no⟩
  | false =>
    refine ⟨(l.take n ++ [l[n + 1], l[n]'(by omega)] ++ l.drop (n + 2), true), s1 _ (fun b e => ?_), s2 _ (fun b e => ?_), by simp; omega⟩
    · rw [e]
      refine Ev.step (fun k => by rw [spec_SwapSteps.j0]) (Ev.neg (by simp) ?_)
      simp only [Option.bind_some, w1, w2, r0, r1, Int.toNat_natCast, List.nil_append, List.length_nil, Nat.zero_add]
      exact Ev.pos (by omega) (Ev.pos (by omega) (Ev.pos (by simp; omega) (Ev.pos (by omega) (Ev.pos (by omega) (Ev.pos (by omega) (Ev.pos (by simp; omega) (Ev.pos (by omega) (Ev.pos (by omega) (Ev.pos (by simp; omega) (Ev.now _))))))))))
    · rw [e]
      refine Ev.step (fun k => by rw [impl_SwapSteps.j0]) (Ev.neg (by simp) ?_)
      have hc : slices_Clone_Limpl_Step_impl_Step.f l = some l := by unfold slices_Clone_Limpl_Step_impl_Step.f; rw [if_pos (by omega)]
      refine Ev.cbind hc ?_
      simp only [w1, r0, r1, Int.toNat_natCast]
      refine Ev.pos (by omega) (Ev.pos (by omega) (Ev.pos (by omega) (Ev.pos (by omega) (Ev.pos (by omega) (Ev.pos (by omega) (Ev.eq (Ev.now _) ?_))))))
      rw [← swap_eq l n hn]

end Go.Proofs.Ytpbpglbldgpckaa.Pure
