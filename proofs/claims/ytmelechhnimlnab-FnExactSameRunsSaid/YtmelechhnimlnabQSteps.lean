/- Runs: both ask the same of good steps. No conditions. -/
import Derived.Test.YtmelechhnimlnabQBase
import Derived.Test.YtmelechhnimlnabG3
import Derived.Test.YtmelechhnimlnabG6
namespace Go.Proofs.Ytmelechhnimlnab.Pure
open Go.RowKit Go.Proofs.Ytmelechhnimlnab.G Go.Proofs.Ytmelechhnimlnab.X Go.Proofs.YtmelechhnimlnabW.PrintWords
set_option linter.unusedVariables false

theorem rdSt_lt {l : List S32} {i : Nat} (h : i < l.length) : rd_T32 l (i : Int) = l[i] := by simp [rd_T32, h]
def stepB (x : S32) : Bool := decide ((0 ≤ x.f0 ∧ x.f0 ≤ 5) ∧ (1 ≤ x.f1 ∧ x.f1 ≤ 2) ∧ (0 ≤ x.f2 ∧ x.f2 ≤ 3))
theorem stepIn_spec (a b c : Int) : spec_l1In.f a b c = some (decide (b ≤ a ∧ a ≤ c)) := by
  unfold spec_l1In.f
  by_cases h : a ≥ b
  · rw [if_pos h]; simp [h]
  · rw [if_neg h]; simp; omega
theorem stepIn_impl (a b c : Int) : impl_within.f a b c = some (decide (b ≤ a ∧ a ≤ c)) := by
  unfold impl_within.f
  by_cases h : b ≤ a
  · rw [if_pos h]; simp [h]
  · rw [if_neg h]; simp [h]
theorem isStep_eq (x : S32) : impl_isStep.f x.f0 x.f1 x.f2 = some (stepB x) := by
  unfold stepB impl_isStep.f impl_isTxn.f
  simp only [stepIn_impl, Option.bind_some]
  by_cases h : 0 ≤ x.f0 ∧ x.f0 ≤ 5
  · rw [if_pos (by simpa using h)]
    by_cases h1 : 1 ≤ x.f1 ∧ x.f1 ≤ 2
    · rw [if_pos (by simpa using h1)]; simp [h, h1]
    · rw [if_neg (by simpa using h1)]; simp; omega
  · rw [if_neg (by simpa using h)]; simp; omega
theorem steps_spec (l : List S32) (hl : l.length ≤ 1048576) (d : Nat) : ∀ (i : Nat), i + d = l.length →
    Ev (fun k => spec_GoodSteps.l0 k l l (l.length : Int) (i : Int)) (decide (l.length ≤ 40) && (l.drop i).all stepB) := by
  induction d with
  | zero =>
    intro i hi
    refine Ev.step (f := fun _ => some (decide ((l.length : Int) ≤ 40))) (fun k => by simp only [spec_GoodSteps.l0]; rw [if_neg (by omega)]) (Ev.eq (Ev.now _) ?_)
    rw [List.drop_of_length_le (by omega)]
    simp; omega
  | succ d ih =>
    intro i hi
    have hlt : i < l.length := by omega
    have e1 : wrap64 ((i : Int) + 1) = ((i + 1 : Nat) : Int) := by rw [w64 (by omega) (by omega)]; rfl
    have hs : ∀ k, spec_GoodSteps.l0 (k + 1) l l (l.length : Int) (i : Int) = if stepB l[i] = true then spec_GoodSteps.l0 k l l (l.length : Int) ((i + 1 : Nat) : Int) else some false := by
      intro k
      simp only [spec_GoodSteps.l0]
      rw [if_pos (by omega), if_pos (by omega), if_pos (by omega), rdSt_lt hlt, stepIn_spec, e1]
      unfold stepB
      simp only [Option.bind_some, decide_eq_true_eq]
      by_cases a : l[i].f0 < 0
      · rw [if_pos a, if_neg (by omega)]
      · rw [if_neg a]
        by_cases b : l[i].f0 ≥ 6
        · rw [if_pos b, if_neg (by omega)]
        · rw [if_neg b]
          by_cases c : l[i].f2 < 0
          · rw [if_pos c, if_neg (by omega)]
          · rw [if_neg c]
            by_cases e : l[i].f2 ≥ 4
            · rw [if_pos e, if_neg (by omega)]
            · rw [if_neg e]
              by_cases f : 1 ≤ l[i].f1 ∧ l[i].f1 ≤ 2
              · rw [if_pos f, if_pos (by omega)]
              · rw [if_neg f, if_neg (by omega)]
    refine Ev.step hs ?_
    rw [drop_cons hlt, List.all_cons]
    by_cases h : stepB l[i] = true
    · rw [h]
      exact Ev.pos rfl (by simpa using ih (i + 1) (by omega))
    · rw [Bool.eq_false_iff.mpr h]
      exact Ev.neg (by simp) (Ev.eq (Ev.now _) (by simp))

def goodSteps (l : List S32) : Bool := decide (l.length ≤ 40) && l.all stepB
theorem goodSteps_spec (l : List S32) (hl : l.length ≤ 1048576) : Ev (fun k => spec_GoodSteps.f k l) (goodSteps l) := by
  unfold spec_GoodSteps.f goodSteps
  simpa using steps_spec l hl l.length 0 (by omega)
theorem goodSteps_impl (l : List S32) : impl_GoodSteps.f l = some (goodSteps l) := by
  unfold impl_GoodSteps.f impl_areAll_impl_Step__impl_isStep.f goodSteps
  by_cases c : l.length ≤ 40
  · rw [if_pos (by omega), allO_eq l (p := stepB) (fun x _ => isStep_eq x)]; simp [c]
  · rw [if_neg (by omega)]; simp [c]
theorem goodSteps_len {l : List S32} (h : goodSteps l = true) : l.length ≤ 40 := by
  unfold goodSteps at h
  rw [Bool.and_eq_true, decide_eq_true_eq] at h
  exact h.1
theorem goodSteps_all {l : List S32} (h : goodSteps l = true) : ∀ x ∈ l, (0 ≤ x.f0 ∧ x.f0 ≤ 5) ∧ (1 ≤ x.f1 ∧ x.f1 ≤ 2) ∧ (0 ≤ x.f2 ∧ x.f2 ≤ 3) := by
  unfold goodSteps at h
  rw [Bool.and_eq_true, List.all_eq_true] at h
  exact fun x hx => of_decide_eq_true (h.2 x hx)

end Go.Proofs.Ytmelechhnimlnab.Pure
