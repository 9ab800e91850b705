/- Numbers that rise below a bound: both ask the same. No conditions. -/
import Derived.Test.YtmelechhnimlnadG1
import Derived.Test.YtmelechhnimlnadG9
import Derived.Test.YtmelechhnimlnadQBase
namespace Go.Proofs.Ytmelechhnimlnad.Pure
open Go.RowKit Go.Proofs.Ytmelechhnimlnad.G Go.Proofs.Ytmelechhnimlnad.X Go.Proofs.YtmelechhnimlnadW.PrintWords Go.Proofs.YtmelechhnimlnadW.PrintLast
set_option linter.unusedVariables false

theorem rng_s (i d : Nat) : List.range' i (d + 1) = i :: List.range' (i + 1) d := rfl
def belowB (n x : Int) : Bool := decide (0 ≤ x ∧ x < n)
theorem isPlace_eq (x n : Int) : impl_isPlace.f x n = some (belowB n x) := by
  unfold impl_isPlace.f belowB
  by_cases h : x ≥ 0
  · rw [if_pos h]; simp [h]
  · rw [if_neg h]; simp; omega
/-- At a place stands a number below the bound, greater than the one ahead of it. -/
def someAt (n : Int) (l : List Int) (j : Nat) : Bool := belowB n (rd l (j : Int)) && (decide (j = 0) || decide (rd l ((j : Int) - 1) < rd l (j : Int)))
def someB (n : Int) (l : List Int) : Bool := (List.range' 0 l.length).all (someAt n l)

theorem some_spec_l (n : Int) (l : List Int) (hl : l.length ≤ 9223372036854775806) (d : Nat) : ∀ (i : Nat), i + d = l.length →
    Ev (fun k => spec_l1Some.l0 k l n l (l.length : Int) (i : Int)) ((List.range' i d).all (someAt n l)) := by
  induction d with
  | zero => intro i hi; exact Ev.step (fun k => by rw [spec_l1Some.l0]) (Ev.neg (by omega) (Ev.eq (Ev.now true) rfl))
  | succ d ih =>
    intro i hi
    have jt : someAt n l i = false → Ev (fun _ => some false) (someAt n l i && (List.range' (i + 1) d).all (someAt n l)) := fun e => by rw [e]; exact Ev.now false
    have jf : someAt n l i = true → Ev (fun k => spec_l1Some.l0 k l n l (l.length : Int) (wrap64 ((i : Int) + 1))) (someAt n l i && (List.range' (i + 1) d).all (someAt n l)) := fun e => by rw [e, w64 (by omega) (by omega)]; exact ih (i + 1) (by omega)
    rw [rng_s, List.all_cons]
    refine Ev.step (fun k => by rw [spec_l1Some.l0]) (Ev.pos (by omega) (Ev.pos (by omega) (Ev.pos (by omega) ?_)))
    by_cases h1 : rd l (i : Int) < 0
    · exact Ev.pos h1 (jt (by unfold someAt belowB; rw [decide_eq_false (by omega)]; rfl))
    refine Ev.neg h1 ?_
    by_cases h2 : rd l (i : Int) ≥ n
    · exact Ev.pos h2 (jt (by unfold someAt belowB; rw [decide_eq_false (by omega)]; rfl))
    refine Ev.neg h2 ?_
    have hb : belowB n (rd l (i : Int)) = true := by unfold belowB; rw [decide_eq_true (by omega)]
    by_cases h3 : i = 0
    · exact Ev.neg (by omega) (jf (by unfold someAt; rw [hb, decide_eq_true h3]; rfl))
    · rw [w64 (x := (i : Int) - 1) (by omega) (by omega)]
      refine Ev.pos (by omega) (Ev.pos (by omega) (Ev.pos (by omega) ?_))
      by_cases h4 : rd l ((i : Int) - 1) < rd l (i : Int)
      · exact Ev.neg (by omega) (jf (by unfold someAt; rw [hb, decide_eq_false h3, decide_eq_true h4]; rfl))
      · exact Ev.pos (by omega) (jt (by unfold someAt; rw [hb, decide_eq_false h3, decide_eq_false h4]; rfl))
theorem some_spec (n : Int) (l : List Int) (hl : l.length ≤ 9223372036854775806) : Ev (fun k => spec_l1Some.f k l n) (someB n l) := by
  unfold spec_l1Some.f
  exact some_spec_l n l hl l.length 0 (by omega)
theorem some_impl_l (n : Int) (l : List Int) (hl : l.length ≤ 9223372036854775806) (d : Nat) : ∀ (i : Nat), i + d = l.length →
    Ev (fun k => impl_areRising.l0 k l n l (l.length : Int) (i : Int)) ((List.range' i d).all (someAt n l)) := by
  induction d with
  | zero => intro i hi; exact Ev.step (fun k => by rw [impl_areRising.l0]) (Ev.neg (by omega) (Ev.eq (Ev.now true) rfl))
  | succ d ih =>
    intro i hi
    have jt : someAt n l i = false → Ev (fun _ => some false) (someAt n l i && (List.range' (i + 1) d).all (someAt n l)) := fun e => by rw [e]; exact Ev.now false
    have jf : someAt n l i = true → Ev (fun k => impl_areRising.l0 k l n l (l.length : Int) (wrap64 ((i : Int) + 1))) (someAt n l i && (List.range' (i + 1) d).all (someAt n l)) := fun e => by rw [e, w64 (by omega) (by omega)]; exact ih (i + 1) (by omega)
    rw [rng_s, List.all_cons]
    refine Ev.step (fun k => by rw [impl_areRising.l0]) (Ev.pos (by omega) (Ev.pos (by omega) (Ev.pos (by omega) (Ev.cbind (isPlace_eq _ _) ?_))))
    by_cases hb : belowB n (rd l (i : Int)) = true
    case neg => exact Ev.neg hb (jt (by unfold someAt; rw [Bool.eq_false_iff.mpr hb]; rfl))
    refine Ev.pos hb ?_
    by_cases h3 : i = 0
    · exact Ev.neg (by omega) (jf (by unfold someAt; rw [hb, decide_eq_true h3]; rfl))
    · rw [w64 (x := (i : Int) - 1) (by omega) (by omega)]
      refine Ev.pos (by omega) (Ev.pos (by omega) (Ev.pos (by omega) ?_))
      by_cases h4 : rd l ((i : Int) - 1) < rd l (i : Int)
      · exact Ev.neg (by omega) (jf (by unfold someAt; rw [hb, decide_eq_false h3, decide_eq_true h4]; rfl))
      · exact Ev.pos (by omega) (jt (by unfold someAt; rw [hb, decide_eq_false h3, decide_eq_false h4]; rfl))
theorem some_impl (n : Int) (l : List Int) (hl : l.length ≤ 9223372036854775806) : Ev (fun k => impl_areRising.f k l n) (someB n l) := by
  unfold impl_areRising.f
  exact some_impl_l n l hl l.length 0 (by omega)

end Go.Proofs.Ytmelechhnimlnad.Pure
