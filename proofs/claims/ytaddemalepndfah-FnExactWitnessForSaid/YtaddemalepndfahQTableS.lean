/- Tables: what the reference asks of a good table. No conditions. -/
import Derived.Test.YtaddemalepndfahG5
import Derived.Test.YtaddemalepndfahQCmpSpec
namespace Go.Proofs.Ytaddemalepndfah.Pure
open Go.RowKit Go.Proofs.Ytaddemalepndfah.G Go.Proofs.Ytaddemalepndfah.X Go.Proofs.YtaddemalepndfahW.PrintWords Go.Proofs.YtaddemalepndfahW.PrintLast
set_option linter.unusedVariables false

/-- A row with a weight at a place is as a table of so many columns asks. -/
def okAt (c : Int) (l : List S53) (j : Nat) : Bool :=
  goodRow (rd_T53 l (j : Int)).f0.f0 && (decide (((rd_T53 l (j : Int)).f0.f0.length : Int) = c) && (decide (-1000000 ≤ (rd_T53 l (j : Int)).f1 ∧ (rd_T53 l (j : Int)).f1 ≤ 1000000) && (!decide ((rd_T53 l (j : Int)).f1 = 0) && (decide (j = 0) || decide (cmpL (rd_T53 l ((j : Int) - 1)).f0.f0 (rd_T53 l (j : Int)).f0.f0 < 0)))))
def goodTable (c : Int) (l : List S53) : Bool := decide (0 ≤ c ∧ c ≤ 6) && (decide (l.length ≤ 60) && (List.range' 0 l.length).all (okAt c l))

theorem range'_s (i d : Nat) : List.range' i (d + 1) = i :: List.range' (i + 1) d := rfl

theorem table_spec_l (c : Int) (l : List S53) (hl : l.length ≤ 1048576) (hr : ∀ i : Int, (rd_T53 l i).f0.f0.length ≤ 1048576) (d : Nat) : ∀ (i : Nat), i + d = l.length →
    Ev (fun k => spec_GoodTable.l0 k l (l.length : Int) (i : Int) c l) ((List.range' i d).all (okAt c l) && (decide (0 ≤ c ∧ c ≤ 6) && decide (l.length ≤ 60))) := by
  induction d with
  | zero =>
    intro i hi
    refine Ev.step (fun k => by rw [spec_GoodTable.l0]) (Ev.neg (by omega) (Ev.cbind (in_spec _ _ _) ?_))
    by_cases h : 0 ≤ c ∧ c ≤ 6
    · exact Ev.pos (by simpa using h) (Ev.eq (Ev.now _) (by simp [h]; omega))
    · exact Ev.neg (by simpa using h) (Ev.eq (Ev.now _) (by simp [h]))
  | succ d ih =>
    intro i hi
    have jt : Ev (fun k => spec_GoodTable.j1 k l (l.length : Int) (i : Int) true c l) false := Ev.step (fun k => by rw [spec_GoodTable.j1]) (Ev.pos rfl (Ev.now _))
    have jf : Ev (fun k => spec_GoodTable.j1 k l (l.length : Int) (i : Int) false c l) ((List.range' (i + 1) d).all (okAt c l) && (decide (0 ≤ c ∧ c ≤ 6) && decide (l.length ≤ 60))) := Ev.step (fun k => by rw [spec_GoodTable.j1]) (Ev.neg (by simp) (by rw [w64 (by omega) (by omega)]; exact ih (i + 1) (by omega)))
    rw [range'_s, List.all_cons]
    refine Ev.step (fun k => by rw [spec_GoodTable.l0]) (Ev.pos (by omega) (Ev.pos (by omega) (Ev.pos (by omega) (Ev.bind (goodRow_spec _ (by have := hr i; omega)) ?_))))
    have jt0 : okAt c l i = false → Ev (fun k => spec_GoodTable.j1 k l (l.length : Int) (i : Int) true c l) (okAt c l i && (List.range' (i + 1) d).all (okAt c l) && (decide (0 ≤ c ∧ c ≤ 6) && decide (l.length ≤ 60))) := fun e => by rw [e]; exact jt
    have jf0 : okAt c l i = true → Ev (fun k => spec_GoodTable.j1 k l (l.length : Int) (i : Int) false c l) (okAt c l i && (List.range' (i + 1) d).all (okAt c l) && (decide (0 ≤ c ∧ c ≤ 6) && decide (l.length ≤ 60))) := fun e => by rw [e]; exact jf
    unfold spec_l2Weight.f
    by_cases h1 : goodRow (rd_T53 l (i : Int)).f0.f0 = true
    case neg => exact Ev.neg h1 (jt0 (by unfold okAt; rw [Bool.eq_false_iff.mpr h1]; rfl))
    refine Ev.pos h1 ?_
    by_cases h2 : ((rd_T53 l (i : Int)).f0.f0.length : Int) = c
    case neg => exact Ev.neg h2 (jt0 (by unfold okAt; rw [h1, decide_eq_false h2]; rfl))
    refine Ev.pos h2 (Ev.cbind (by rw [in_spec, Option.bind_some]) ?_)
    by_cases h3 : -1000000 ≤ (rd_T53 l (i : Int)).f1 ∧ (rd_T53 l (i : Int)).f1 ≤ 1000000
    case neg => exact Ev.neg (by simpa using h3) (jt0 (by unfold okAt; rw [h1, decide_eq_true h2, decide_eq_false h3]; rfl))
    refine Ev.pos (by simpa using h3) ?_
    by_cases h4 : (rd_T53 l (i : Int)).f1 = 0
    case pos => exact Ev.pos h4 (jt0 (by unfold okAt; rw [h1, decide_eq_true h2, decide_eq_true h3, decide_eq_true h4]; rfl))
    refine Ev.neg h4 ?_
    by_cases h5 : i = 0
    · exact Ev.neg (by omega) (jf0 (by unfold okAt; rw [h1, decide_eq_true h2, decide_eq_true h3, decide_eq_false h4, decide_eq_true h5]; rfl))
    · rw [w64 (x := (i : Int) - 1) (by omega) (by omega)]
      refine Ev.pos (by omega) (Ev.pos (by omega) (Ev.pos (by omega) (Ev.bind (cmp_spec _ _ (by have := hr ((i : Int) - 1); omega)) ?_)))
      by_cases h6 : cmpL (rd_T53 l ((i : Int) - 1)).f0.f0 (rd_T53 l (i : Int)).f0.f0 < 0
      · rw [decide_eq_false (by omega)]
        exact jf0 (by unfold okAt; rw [h1, decide_eq_true h2, decide_eq_true h3, decide_eq_false h4, decide_eq_false h5, decide_eq_true h6]; rfl)
      · rw [decide_eq_true (by omega)]
        exact jt0 (by unfold okAt; rw [h1, decide_eq_true h2, decide_eq_true h3, decide_eq_false h4, decide_eq_false h5, decide_eq_false h6]; rfl)
theorem table_spec (c : Int) (l : List S53) (hl : l.length ≤ 1048576) (hr : ∀ i : Int, (rd_T53 l i).f0.f0.length ≤ 1048576) : Ev (fun k => spec_GoodTable.f k c l) (goodTable c l) := by
  unfold spec_GoodTable.f goodTable
  refine Ev.eq (table_spec_l c l hl hr l.length 0 (by omega)) ?_
  rw [Bool.and_comm, Bool.and_assoc]

/-- What is read of a list whose parts are short is short. -/
theorem rd_rows (l : List S53) (n : Nat) (h : ∀ x ∈ l, x.f0.f0.length ≤ n) (i : Int) : (rd_T53 l i).f0.f0.length ≤ n := by
  unfold rd_T53
  rw [List.getD_eq_getElem?_getD]
  by_cases hi : i.toNat < l.length
  · rw [List.getElem?_eq_getElem hi]; exact h _ (List.getElem_mem hi)
  · rw [List.getElem?_eq_none (by omega)]; exact Nat.zero_le _
theorem rdW_lt {l : List S53} {i : Nat} (h : i < l.length) : rd_T53 l (i : Int) = l[i] := by simp [rd_T53, h]
/-- A predicate over the rest of a list, by places. -/
theorem all_places (p : S53 → Bool) (l : List S53) (d : Nat) : ∀ (i : Nat), i + d = l.length → (l.drop i).all p = (List.range' i d).all (fun j : Nat => p (rd_T53 l (j : Int))) := by
  induction d with
  | zero => intro i hi; rw [List.drop_of_length_le (by omega)]; rfl
  | succ d ih =>
    intro i hi
    have hlt : i < l.length := by omega
    rw [drop_cons hlt, List.all_cons, range'_s, List.all_cons, ih (i + 1) (by omega), rdW_lt hlt]

end Go.Proofs.Ytaddemalepndfah.Pure
