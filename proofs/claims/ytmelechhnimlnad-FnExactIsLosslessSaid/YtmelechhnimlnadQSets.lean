/- What the functions on sets of columns compute: lists in the reference, bits in the program. No conditions. -/
import Derived.Test.YtmelechhnimlnadG1
import Derived.Test.YtmelechhnimlnadG2
import Derived.Test.YtmelechhnimlnadG10
import Derived.Test.YtmelechhnimlnadQSetBits
import Derived.Test.YtmelechhnimlnadQSome
namespace Go.Proofs.Ytmelechhnimlnad.Pure
open Go.RowKit Go.Proofs.Ytmelechhnimlnad.G Go.Proofs.Ytmelechhnimlnad.X Go.Proofs.YtmelechhnimlnadW.PrintWords Go.Proofs.YtmelechhnimlnadW.PrintLast
set_option linter.unusedVariables false

theorem has_spec_l (n : Int) (l : List Int) (hl : l.length ≤ 9223372036854775806) (d : Nat) : ∀ (i : Nat), i + d = l.length →
    Ev (fun k => spec_l1Has.l0 k n l (l.length : Int) (i : Int)) (decide (n ∈ l.drop i)) := by
  induction d with
  | zero =>
    intro i hi
    rw [List.drop_of_length_le (by omega)]
    exact Ev.step (fun k => by rw [spec_l1Has.l0]) (Ev.neg (by omega) (Ev.eq (Ev.now false) (by simp)))
  | succ d ih =>
    intro i hi
    have hlt : i < l.length := by omega
    rw [drop_cons hlt]
    refine Ev.step (fun k => by rw [spec_l1Has.l0]) (Ev.pos (by omega) (Ev.pos (by omega) (Ev.pos (by omega) ?_)))
    rw [rd_lt hlt, w64 (x := (i : Int) + 1) (by omega) (by omega)]
    by_cases h : l[i] = n
    · exact Ev.pos h (Ev.eq (Ev.now true) (by rw [decide_eq_true]; rw [h]; exact List.mem_cons_self))
    · refine Ev.neg h (Ev.eq (ih (i + 1) (by omega)) ?_)
      rw [decide_eq_decide, List.mem_cons]
      constructor
      · exact .inr
      · rintro (c | c)
        · exact absurd c.symm h
        · exact c
theorem has_spec (n : Int) (l : List Int) (hl : l.length ≤ 9223372036854775806) : Ev (fun k => spec_l1Has.f k l n) (decide (n ∈ l)) := by
  unfold spec_l1Has.f
  exact has_spec_l n l hl l.length 0 (by omega)

theorem ins_at (n : Int) : ∀ (l : List Int) (i : Nat), (∀ j : Nat, j < i → (h : j < l.length) → l[j] < n) → (h : i ≤ l.length) → (∀ h : i < l.length, ¬ l[i] < n) → ins n l = l.take i ++ [n] ++ l.drop i
  | [], i, _, h, _ => by simp at h; subst h; rfl
  | x :: xs, 0, _, _, h2 => by
    unfold ins
    have hx : ¬ x < n := h2 (Nat.zero_lt_succ _)
    rw [if_neg hx]
    rfl
  | x :: xs, i + 1, h1, h, h2 => by
    unfold ins
    have hx : x < n := h1 0 (by omega) (Nat.zero_lt_succ _)
    rw [if_pos hx, ins_at n xs i (fun j hj hjl => h1 (j + 1) (by omega) (Nat.succ_lt_succ hjl)) (Nat.le_of_succ_le_succ h) (fun hi => h2 (Nat.succ_lt_succ hi))]
    rfl
theorem put_spec_l (n : Int) (l : List Int) (hl : l.length ≤ 1099511627776) (d : Nat) : ∀ (i : Nat), i + d = l.length → (∀ j : Nat, j < i → (h : j < l.length) → l[j] < n) →
    Ev (fun k => spec_l7Put.l0 k l n (i : Int)) (ins n l) := by
  induction d with
  | zero =>
    intro i hi hb
    have e := ins_at n l i hb (by omega) (fun h => absurd h (by omega))
    refine Ev.step (fun k => by rw [spec_l7Put.l0]) (Ev.neg (by omega) (Ev.pos (by omega) (Ev.pos (by omega) ?_)))
    simp only [Option.bind_some, Int.toNat_natCast, List.nil_append]
    refine Ev.pos (by simp; omega) (Ev.pos (by simp; omega) (Ev.pos (by simp; omega) (Ev.eq (Ev.now _) ?_)))
    exact e.symm
  | succ d ih =>
    intro i hi hb
    have hlt : i < l.length := by omega
    refine Ev.step (fun k => by rw [spec_l7Put.l0]) (Ev.pos (by omega) (Ev.pos (by omega) ?_))
    rw [rd_lt hlt, w64 (x := (i : Int) + 1) (by omega) (by omega)]
    by_cases h : l[i] < n
    · refine Ev.pos h (ih (i + 1) (by omega) (fun j hj hjl => ?_))
      by_cases e : j = i
      · subst e; exact h
      · exact hb j (by omega) hjl
    · have e := ins_at n l i hb (by omega) (fun _ => h)
      refine Ev.neg h (Ev.pos (by omega) ?_)
      simp only [Option.bind_some, Int.toNat_natCast, List.nil_append]
      refine Ev.pos (by simp; omega) (Ev.pos (by simp; omega) (Ev.pos (by simp; omega) (Ev.eq (Ev.now _) ?_)))
      exact e.symm
theorem put_spec (n : Int) (l : List Int) (hl : l.length ≤ 1099511627776) : Ev (fun k => spec_l7Put.f k l n) (put l n) := by
  unfold spec_l7Put.f put
  refine Ev.bind (has_spec n l (by omega)) ?_
  by_cases h : n ∈ l
  · rw [if_pos h]
    exact Ev.pos (decide_eq_true h) (Ev.now _)
  · rw [if_neg h]
    exact Ev.neg (by simpa using h) (put_spec_l n l hl l.length 0 (by omega) (fun j hj => absurd hj (by omega)))

theorem setOf_impl_l (l : List Int) (hl : l.length ≤ 9223372036854775806) (hp : ∀ k ∈ l, 0 ≤ k) (d : Nat) : ∀ (i : Nat) (s : Int), i + d = l.length →
    Ev (fun k => impl_setOf.l0 k s l (l.length : Int) (i : Int)) (orAll s (l.drop i)) := by
  induction d with
  | zero =>
    intro i s hi
    rw [List.drop_of_length_le (by omega)]
    exact Ev.step (fun k => by rw [impl_setOf.l0]) (Ev.neg (by omega) (Ev.eq (Ev.now s) rfl))
  | succ d ih =>
    intro i s hi
    have hlt : i < l.length := by omega
    rw [drop_cons hlt]
    refine Ev.step (fun k => by rw [impl_setOf.l0]) (Ev.pos (by omega) (Ev.pos (by omega) (Ev.pos (by omega) ?_)))
    rw [rd_lt hlt, w64 (x := (i : Int) + 1) (by omega) (by omega)]
    exact Ev.pos (hp _ (List.getElem_mem hlt)) (ih (i + 1) _ (by omega))
theorem setOf_impl (l : List Int) (hl : l.length ≤ 9223372036854775806) (hp : ∀ k ∈ l, 0 ≤ k) : Ev (fun k => impl_setOf.f k l) (orAll 0 l) := by
  unfold impl_setOf.f
  exact setOf_impl_l l hl hp l.length 0 0 (by omega)
theorem some_mem {n : Int} {l : List Int} (h : someB n l = true) : ∀ k ∈ l, 0 ≤ k ∧ k < n := by
  intro k hk
  obtain ⟨i, hi, rfl⟩ := List.getElem_of_mem hk
  have := List.all_eq_true.1 h i (by rw [List.mem_range']; exact ⟨i, hi, by omega⟩)
  unfold someAt at this
  rw [Bool.and_eq_true, rd_lt hi] at this
  exact of_decide_eq_true this.1

end Go.Proofs.Ytmelechhnimlnad.Pure
