/- Pairs of columns: both ask the same; the columns that are in no pair. No conditions. -/
import Derived.Test.YtaddemalepndfaeG3
import Derived.Test.YtaddemalepndfaeG8
import Derived.Test.YtaddemalepndfaeG7
import Derived.Test.YtaddemalepndfaeQBase
namespace Go.Proofs.Ytaddemalepndfae.Pure
open Go.RowKit Go.Proofs.Ytaddemalepndfae.G Go.Proofs.Ytaddemalepndfae.X Go.Proofs.YtaddemalepndfaeW.PrintWords Go.Proofs.YtaddemalepndfaeW.PrintLast
set_option linter.unusedVariables false

theorem rdl {l : List (List Int)} {i : Nat} (h : i < l.length) : rd_L2 l (i : Int) = l[i] := by simp [rd_L2, h]
def okB (A B : Int) (p : List Int) : Bool := decide (p.length = 2) && (decide (0 ≤ rd p 0 ∧ rd p 0 < A) && decide (0 ≤ rd p 1 ∧ rd p 1 < B))
def pairsB (A B : Int) (l : List (List Int)) : Bool := l.all (okB A B) && decide (l.length ≤ 6)
def hitB (l : List (List Int)) (x : Int) : Bool := l.any fun p => rd p 1 == x
def frees (l : List (List Int)) : Nat → List Int
  | 0 => []
  | n + 1 => if hitB l n = true then frees l n else frees l n ++ [(n : Int)]
theorem frees_len (l : List (List Int)) : ∀ n, (frees l n).length ≤ n
  | 0 => Nat.le_refl _
  | n + 1 => by unfold frees; have := frees_len l n; split <;> simp <;> omega
theorem frees_mem (l : List (List Int)) : ∀ n, ∀ x ∈ frees l n, 0 ≤ x ∧ x < (n : Int)
  | 0, x, h => by cases h
  | n + 1, x, h => by
    unfold frees at h
    split at h
    · have := frees_mem l n x h; omega
    · rcases List.mem_append.1 h with h | h
      · have := frees_mem l n x h; omega
      · rw [List.mem_singleton.1 h]; omega
theorem allO_eq {α : Type} {pf : α → Option Bool} {p : α → Bool} : ∀ (xs : List α), (∀ x ∈ xs, pf x = some (p x)) → allO pf xs = some (xs.all p)
  | [], _ => rfl
  | x :: xs, h => by
    unfold allO
    rw [h x List.mem_cons_self, Option.bind_some, List.all_cons]
    cases p x with
    | true => simpa using allO_eq xs (fun y hy => h y (List.mem_cons_of_mem _ hy))
    | false => rfl
theorem anyO_eq {α : Type} {pf : α → Option Bool} {p : α → Bool} : ∀ (xs : List α), (∀ x ∈ xs, pf x = some (p x)) → anyO pf xs = some (xs.any p)
  | [], _ => rfl
  | x :: xs, h => by
    unfold anyO
    rw [h x List.mem_cons_self, Option.bind_some, List.any_cons]
    cases p x with
    | false => simpa using anyO_eq xs (fun y hy => h y (List.mem_cons_of_mem _ hy))
    | true => rfl
theorem ok_parts {A B : Int} {p : List Int} (h : okB A B p = true) : p.length = 2 ∧ (0 ≤ rd p 0 ∧ rd p 0 < A) ∧ 0 ≤ rd p 1 ∧ rd p 1 < B := by
  unfold okB at h
  rw [Bool.and_eq_true, Bool.and_eq_true, decide_eq_true_eq, decide_eq_true_eq, decide_eq_true_eq] at h
  exact h
theorem ok_no {A B : Int} {p : List Int} (h : ¬ (p.length = 2 ∧ (0 ≤ rd p 0 ∧ rd p 0 < A) ∧ 0 ≤ rd p 1 ∧ rd p 1 < B)) : okB A B p = false := by
  cases e : okB A B p with
  | false => rfl
  | true => exact absurd (ok_parts e) h
theorem ok_yes {A B : Int} {p : List Int} (h : p.length = 2 ∧ (0 ≤ rd p 0 ∧ rd p 0 < A) ∧ 0 ≤ rd p 1 ∧ rd p 1 < B) : okB A B p = true := by
  unfold okB
  rw [Bool.and_eq_true, Bool.and_eq_true, decide_eq_true_eq, decide_eq_true_eq, decide_eq_true_eq]
  exact h
theorem pairs_spec_l (A B : Int) (l : List (List Int)) (hl : l.length ≤ 1048576) (d : Nat) : ∀ (i : Nat), i + d = l.length →
    Ev (fun k => spec_l1Pairs.l0 k l A B l (l.length : Int) (i : Int)) ((l.drop i).all (okB A B) && decide (l.length ≤ 6)) := by
  induction d with
  | zero =>
    intro i hi
    obtain rfl : i = l.length := by omega
    refine Ev.step (fun k => by rw [spec_l1Pairs.l0]) (Ev.neg (by omega) (Ev.eq (Ev.now _) ?_))
    rw [List.drop_length]
    show _ = (true && _)
    rw [Bool.true_and, decide_eq_decide]; omega
  | succ d ih =>
    intro i hi
    have hlt : i < l.length := by omega
    refine Ev.step (fun k => by rw [spec_l1Pairs.l0]) (Ev.pos (by omega) (Ev.pos (by omega) (Ev.pos (by omega) ?_)))
    rw [rdl hlt, drop_cons hlt, List.all_cons]
    have no : ¬ (l[i].length = 2 ∧ (0 ≤ rd l[i] 0 ∧ rd l[i] 0 < A) ∧ 0 ≤ rd l[i] 1 ∧ rd l[i] 1 < B) → false = (okB A B l[i] && (l.drop (i + 1)).all (okB A B) && decide (l.length ≤ 6)) := fun h => by rw [ok_no h]; rfl
    by_cases h2 : l[i].length = 2
    case neg => exact Ev.neg (by omega) (Ev.eq (Ev.now false) (no (fun h => h2 h.1)))
    refine Ev.pos (by omega) (Ev.pos (by omega) ?_)
    by_cases h3 : rd l[i] 0 < 0
    · exact Ev.pos h3 (Ev.eq (Ev.now false) (no (fun h => by omega)))
    refine Ev.neg h3 ?_
    by_cases h4 : rd l[i] 0 ≥ A
    · exact Ev.pos h4 (Ev.eq (Ev.now false) (no (fun h => by omega)))
    refine Ev.neg h4 (Ev.pos (by omega) ?_)
    by_cases h5 : rd l[i] 1 < 0
    · exact Ev.pos h5 (Ev.eq (Ev.now false) (no (fun h => by omega)))
    refine Ev.neg h5 ?_
    by_cases h6 : rd l[i] 1 ≥ B
    · exact Ev.pos h6 (Ev.eq (Ev.now false) (no (fun h => by omega)))
    refine Ev.neg h6 ?_
    rw [w64 (x := (i : Int) + 1) (by omega) (by omega), ok_yes (by omega), Bool.true_and]
    exact ih (i + 1) (by omega)
theorem pairs_spec (A B : Int) (l : List (List Int)) (hl : l.length ≤ 1048576) : Ev (fun k => spec_l1Pairs.f k l A B) (pairsB A B l) := pairs_spec_l A B l hl l.length 0 (by omega)
theorem pplace_eq (x n : Int) : impl_isPlace.f x n = some (decide (0 ≤ x ∧ x < n)) := by
  unfold impl_isPlace.f
  by_cases h : 0 ≤ x
  · simp [h]
  · simp [h]
theorem pair_impl (A B : Int) (p : List Int) : impl_arePairs_1.f p A B = some (okB A B p) := by
  unfold impl_arePairs_1.f
  by_cases h2 : p.length = 2
  case neg => rw [if_neg (by omega), ok_no (fun h => h2 h.1)]
  rw [if_pos (by omega), if_pos (by omega), pplace_eq, Option.bind_some]
  by_cases h3 : 0 ≤ rd p 0 ∧ rd p 0 < A
  case neg => rw [if_neg (by rw [decide_eq_true_eq]; exact h3), ok_no (fun h => h3 h.2.1)]
  rw [if_pos (by rw [decide_eq_true_eq]; exact h3), if_pos (by omega), pplace_eq]
  show some _ = _
  unfold okB
  simp [h2, h3]
theorem pairs_impl (A B : Int) (l : List (List Int)) : impl_arePairs.f l A B = some (pairsB A B l) := by
  unfold impl_arePairs.f
  have e : impl_areAll_Lint__impl_arePairs_1.f l A B = some (l.all (okB A B)) := allO_eq l (fun x _ => pair_impl A B x)
  unfold pairsB
  by_cases h : l.length ≤ 6
  · rw [if_pos (by omega), e]; simp [h]
  · rw [if_neg (by omega)]; simp [h]
theorem unpaired_l (l : List (List Int)) (hok : ∀ p ∈ l, p.length = 2) (n : Nat) (hn : n ≤ 6) (d : Nat) : ∀ (i : Nat), i + d = n → Ev (fun k => impl_unpaired.l0 k l (frees l i) (n : Int) (i : Int)) (frees l n) := by
  induction d with
  | zero =>
    intro i hi
    obtain rfl : i = n := by omega
    exact Ev.step (fun k => by rw [impl_unpaired.l0]) (Ev.neg (by omega) (Ev.now _))
  | succ d ih =>
    intro i hi
    have hf := frees_len l i
    have e : slices_ContainsFunc_LLint_Lint__impl_unpaired_1.f l (i : Int) = some (hitB l (i : Int)) := anyO_eq l (fun p hp => by unfold impl_unpaired_1.f; rw [if_pos (by have := hok p hp; omega)])
    have h := ih (i + 1) (by omega)
    refine Ev.step (fun k => by rw [impl_unpaired.l0]) (Ev.pos (by omega) (Ev.cbind e ?_))
    rw [w64 (x := (i : Int) + 1) (by omega) (by omega)]
    by_cases c : hitB l (i : Int) = true
    · rw [frees, if_pos c] at h
      exact Ev.pos c h
    · rw [frees, if_neg c] at h
      exact Ev.neg c (Ev.pos (by omega) h)

end Go.Proofs.Ytaddemalepndfae.Pure
