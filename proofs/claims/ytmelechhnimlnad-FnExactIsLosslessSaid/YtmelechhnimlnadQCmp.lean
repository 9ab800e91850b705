/- Rows are compared: both compare alike. No conditions. -/
import Derived.Test.YtmelechhnimlnadG3
import Derived.Test.YtmelechhnimlnadG11
import Derived.Test.YtmelechhnimlnadQBase
namespace Go.Proofs.Ytmelechhnimlnad.Pure
open Go.RowKit Go.Proofs.Ytmelechhnimlnad.G Go.Proofs.Ytmelechhnimlnad.X Go.Proofs.YtmelechhnimlnadW.PrintWords Go.Proofs.YtmelechhnimlnadW.PrintLast
set_option linter.unusedVariables false

/-- Rows are told apart at the first cells that are unlike. -/
def cmpL : List Int → List Int → Int
  | [], [] => 0
  | [], _ :: _ => -1
  | _ :: _, [] => 1
  | x :: xs, y :: ys => if x < y then -1 else if x > y then 1 else cmpL xs ys

theorem cmp_spec_l (a b : List Int) (ha : a.length ≤ 9223372036854775806) (d : Nat) : ∀ (i : Nat), i + d = a.length → i ≤ b.length →
    Ev (fun k => spec_l1Compare.l0 k (i : Int) a b) (cmpL (a.drop i) (b.drop i)) := by
  induction d with
  | zero =>
    intro i hi hb
    refine Ev.step (fun k => by rw [spec_l1Compare.l0]) (Ev.neg (by omega) (Ev.step (fun k => by rw [spec_l1Compare.j1]) (Ev.neg (by simp) ?_)))
    rw [List.drop_of_length_le (by omega)]
    by_cases h : a.length < b.length
    · rw [drop_cons (show i < b.length by omega)]
      exact Ev.pos (by omega) (Ev.now _)
    · rw [List.drop_of_length_le (l := b) (by omega)]
      exact Ev.neg (by omega) (Ev.neg (by omega) (Ev.now _))
  | succ d ih =>
    intro i hi hb
    have hlt : i < a.length := by omega
    rw [drop_cons hlt]
    refine Ev.step (fun k => by rw [spec_l1Compare.l0]) (Ev.pos (by omega) (Ev.step (fun k => by rw [spec_l1Compare.j1]) ?_))
    by_cases h : i < b.length
    · rw [drop_cons h]
      refine Ev.pos (by simpa using h) (Ev.pos (by omega) (Ev.pos (by omega) (Ev.pos (by omega) ?_)))
      rw [rd_lt hlt, rd_lt h, w64 (by omega) (by omega)]
      unfold cmpL
      by_cases h1 : a[i] < b[i]
      · rw [if_pos h1]; exact Ev.pos h1 (Ev.now _)
      · rw [if_neg h1]
        refine Ev.neg h1 ?_
        by_cases h2 : a[i] > b[i]
        · rw [if_pos h2]; exact Ev.pos h2 (Ev.now _)
        · rw [if_neg h2]; exact Ev.neg h2 (ih (i + 1) (by omega) (by omega))
    · rw [List.drop_of_length_le (l := b) (by omega)]
      exact Ev.neg (by simp; omega) (Ev.neg (by omega) (Ev.pos (by omega) (Ev.now _)))
theorem cmp_spec (a b : List Int) (ha : a.length ≤ 9223372036854775806) : Ev (fun k => spec_l1Compare.f k a b) (cmpL a b) := by
  unfold spec_l1Compare.f
  simpa using cmp_spec_l a b ha a.length 0 (by omega) (by omega)

theorem cmpInt (x y : Int) : cmp_Compare_int.f x y = some (if x < y then -1 else if x > y then 1 else 0) := by
  unfold cmp_Compare_int.f
  simp only [cmp_isNaN_int.f, Option.bind_some, bne_self_eq_false, Bool.false_eq_true, if_false]
  by_cases h : x < y
  · rw [if_pos h, if_pos h]
  · rw [if_neg h, if_neg h]
    by_cases h2 : x > y
    · rw [if_pos h2, if_pos h2]
    · rw [if_neg h2, if_neg h2]
theorem cmp_impl_l (a b : List Int) (ha : a.length ≤ 9223372036854775806) (d : Nat) : ∀ (i : Nat), i + d = a.length → i ≤ b.length →
    Ev (fun k => slices_Compare_Lint_int.l0 k a b a (a.length : Int) (i : Int)) (cmpL (a.drop i) (b.drop i)) := by
  induction d with
  | zero =>
    intro i hi hb
    refine Ev.step (fun k => by rw [slices_Compare_Lint_int.l0]) (Ev.neg (by omega) ?_)
    rw [List.drop_of_length_le (by omega)]
    by_cases h : a.length < b.length
    · rw [drop_cons (show i < b.length by omega)]
      exact Ev.pos (by omega) (Ev.now _)
    · rw [List.drop_of_length_le (l := b) (by omega)]
      exact Ev.neg (by omega) (Ev.now _)
  | succ d ih =>
    intro i hi hb
    have hlt : i < a.length := by omega
    rw [drop_cons hlt]
    refine Ev.step (fun k => by rw [slices_Compare_Lint_int.l0]) (Ev.pos (by omega) (Ev.pos (by omega) (Ev.pos (by omega) ?_)))
    by_cases h : i < b.length
    · rw [drop_cons h]
      refine Ev.neg (by omega) (Ev.pos (by omega) ?_)
      rw [rd_lt hlt, rd_lt h, w64 (by omega) (by omega), cmpInt]
      unfold cmpL
      refine Ev.cbind rfl ?_
      by_cases h1 : a[i] < b[i]
      · simp only [if_pos h1]; exact Ev.neg (by omega) (Ev.now _)
      · simp only [if_neg h1]
        by_cases h2 : a[i] > b[i]
        · simp only [if_pos h2]; exact Ev.neg (by omega) (Ev.now _)
        · simp only [if_neg h2]; exact Ev.pos trivial (ih (i + 1) (by omega) (by omega))
    · rw [List.drop_of_length_le (l := b) (by omega)]
      exact Ev.pos (by omega) (Ev.now _)
theorem cmp_impl (a b : List Int) (ha : a.length ≤ 9223372036854775806) : Ev (fun k => impl_compareRows.f k a b) (cmpL a b) := by
  unfold impl_compareRows.f slices_Compare_Lint_int.f
  refine Ev.bind (by simpa using cmp_impl_l a b ha a.length 0 (by omega) (by omega)) (Ev.now _)

end Go.Proofs.Ytmelechhnimlnad.Pure
