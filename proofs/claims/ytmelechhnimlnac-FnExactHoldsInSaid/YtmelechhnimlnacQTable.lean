/- Tables: both ask the same of a good table. No conditions. -/
import Derived.Test.YtmelechhnimlnacG3
import Derived.Test.YtmelechhnimlnacG8
import Derived.Test.YtmelechhnimlnacQCmp
namespace Go.Proofs.Ytmelechhnimlnac.Pure
open Go.RowKit Go.Proofs.Ytmelechhnimlnac.G Go.Proofs.Ytmelechhnimlnac.X Go.Proofs.YtmelechhnimlnacW.PrintWords Go.Proofs.YtmelechhnimlnacW.PrintLast
set_option linter.unusedVariables false

/-- A row with a weight at a place is as a table of so many columns asks. -/
def okAt (c : Int) (l : List S52) (j : Nat) : Bool :=
  goodRow (rd_T52 l (j : Int)).f0.f0 && (decide (((rd_T52 l (j : Int)).f0.f0.length : Int) = c) && (decide (-1000000 ≤ (rd_T52 l (j : Int)).f1 ∧ (rd_T52 l (j : Int)).f1 ≤ 1000000) && (!decide ((rd_T52 l (j : Int)).f1 = 0) && (decide (j = 0) || decide (cmpL (rd_T52 l ((j : Int) - 1)).f0.f0 (rd_T52 l (j : Int)).f0.f0 < 0)))))
def goodTable (c : Int) (l : List S52) : Bool := decide (0 ≤ c ∧ c ≤ 6) && (decide (l.length ≤ 60) && (List.range' 0 l.length).all (okAt c l))

theorem range'_s (i d : Nat) : List.range' i (d + 1) = i :: List.range' (i + 1) d := rfl

theorem table_spec_l (c : Int) (l : List S52) (hl : l.length ≤ 1048576) (hr : ∀ i : Int, (rd_T52 l i).f0.f0.length ≤ 1048576) (d : Nat) : ∀ (i : Nat), i + d = l.length →
    Ev (fun k => spec_GoodTable.l0 k l (l.length : Int) (i : Int) c l) ((List.range' i d).all (okAt c l) && (decide (0 ≤ c ∧ c ≤ 6) && decide (l.length ≤ 60))) := by
  induction d with
  | zero =>
    intro i hi
    refine Ev.step (fun k => by rw [spec_GoodTable.l0]) (Ev.neg (by omega) (Ev.cbind (in_spec _ _ _) ?_))
    by_cases h : 0 ≤ c ∧ c ≤ 6
    · exact Ev.pos (by simpa using h) (Ev.eq (Ev.now _) (by simp [h]; omega))
    · exact Ev.neg (by simpa using h) (Ev.eq (Ev.now _) (by simp [h]))
  | succ d ih =>
    intro i hi
    have jt : Ev (fun k => spec_GoodTable.j1 k l (l.length : Int) (i : Int) true c l) false := Ev.step (fun k => by rw [spec_GoodTable.j1]) (Ev.pos rfl (Ev.now _))
    have jf : Ev (fun k => spec_GoodTable.j1 k l (l.length : Int) (i : Int) false c l) ((List.range' (i + 1) d).all (okAt c l) && (decide (0 ≤ c ∧ c ≤ 6) && decide (l.length ≤ 60))) := Ev.step (fun k => by rw [spec_GoodTable.j1]) (Ev.neg (by simp) (by rw [w64 (by omega) (by omega)]; exact ih (i + 1) (by omega)))
    rw [range'_s, List.all_cons]
    refine Ev.step (fun k => by rw [spec_GoodTable.l0]) (Ev.pos (by omega) (Ev.pos (by omega) (Ev.pos (by omega) (Ev.bind (goodRow_spec _ (by have := hr i; omega)) ?_))))
    have jt0 : okAt c l i = false → Ev (fun k => spec_GoodTable.j1 k l (l.length : Int) (i : Int) true c l) (okAt c l i && (List.range' (i + 1) d).all (okAt c l) && (decide (0 ≤ c ∧ c ≤ 6) && decide (l.length ≤ 60))) := fun e => by rw [e]; exact jt
    have jf0 : okAt c l i = true → Ev (fun k => spec_GoodTable.j1 k l (l.length : Int) (i : Int) false c l) (okAt c l i && (List.range' (i + 1) d).all (okAt c l) && (decide (0 ≤ c ∧ c ≤ 6) && decide (l.length ≤ 60))) := fun e => by rw [e]; exact jf
    unfold spec_l2Weight.f
    by_cases h1 : goodRow (rd_T52 l (i : Int)).f0.f0 = true
    case neg => exact Ev.neg h1 (jt0 (by unfold okAt; rw [Bool.eq_false_iff.mpr h1]; rfl))
    refine Ev.pos h1 ?_
    by_cases h2 : ((rd_T52 l (i : Int)).f0.f0.length : Int) = c
    case neg => exact Ev.neg h2 (jt0 (by unfold okAt; rw [h1, decide_eq_false h2]; rfl))
    refine Ev.pos h2 (Ev.cbind (by rw [in_spec, Option.bind_some]) ?_)
    by_cases h3 : -1000000 ≤ (rd_T52 l (i : Int)).f1 ∧ (rd_T52 l (i : Int)).f1 ≤ 1000000
    case neg => exact Ev.neg (by simpa using h3) (jt0 (by unfold okAt; rw [h1, decide_eq_true h2, decide_eq_false h3]; rfl))
    refine Ev.pos (by simpa using h3) ?_
    by_cases h4 : (rd_T52 l (i : Int)).f1 = 0
    case pos => exact Ev.pos h4 (jt0 (by unfold okAt; rw [h1, decide_eq_true h2, decide_eq_true h3, decide_eq_true h4]; rfl))
    refine Ev.neg h4 ?_
    by_cases h5 : i = 0
    · exact Ev.neg (by omega) (jf0 (by unfold okAt; rw [h1, decide_eq_true h2, decide_eq_true h3, decide_eq_false h4, decide_eq_true h5]; rfl))
    · rw [w64 (x := (i : Int) - 1) (by omega) (by omega)]
      refine Ev.pos (by omega) (Ev.pos (by omega) (Ev.pos (by omega) (Ev.bind (cmp_spec _ _ (by have := hr ((i : Int) - 1); omega)) ?_)))
      by_cases h6 : cmpL (rd_T52 l ((i : Int) - 1)).f0.f0 (rd_T52 l (i : Int)).f0.f0 < 0
      · rw [decide_eq_false (by omega)]
        exact jf0 (by unfold okAt; rw [h1, decide_eq_true h2, decide_eq_true h3, decide_eq_false h4, decide_eq_false h5, decide_eq_true h6]; rfl)
      · rw [decide_eq_true (by omega)]
        exact jt0 (by unfold okAt; rw [h1, decide_eq_true h2, decide_eq_true h3, decide_eq_false h4, decide_eq_false h5, decide_eq_false h6]; rfl)
theorem table_spec (c : Int) (l : List S52) (hl : l.length ≤ 1048576) (hr : ∀ i : Int, (rd_T52 l i).f0.f0.length ≤ 1048576) : Ev (fun k => spec_GoodTable.f k c l) (goodTable c l) := by
  unfold spec_GoodTable.f goodTable
  refine Ev.eq (table_spec_l c l hl hr l.length 0 (by omega)) ?_
  rw [Bool.and_comm, Bool.and_assoc]

theorem isRowOf_eq (l : List Int) (c : Int) : impl_isRowOf.f l c = some (goodRow l && decide ((l.length : Int) = c)) := by
  unfold impl_isRowOf.f
  rw [goodRow_impl, Option.bind_some]
  cases goodRow l <;> simp
  by_cases h : (l.length : Int) = c <;> simp [h]

theorem table_impl_l (c : Int) (l : List S52) (hl : l.length ≤ 1048576) (hr : ∀ i : Int, (rd_T52 l i).f0.f0.length ≤ 1048576) (d : Nat) : ∀ (i : Nat), i + d = l.length →
    Ev (fun k => impl_GoodTable.l0 k l (l.length : Int) (i : Int) c l) ((List.range' i d).all (okAt c l)) := by
  induction d with
  | zero =>
    intro i hi
    exact Ev.step (fun k => by rw [impl_GoodTable.l0]) (Ev.neg (by omega) (Ev.eq (Ev.now true) rfl))
  | succ d ih =>
    intro i hi
    have jt : Ev (fun k => impl_GoodTable.j2 k l (l.length : Int) (i : Int) true c l) false := Ev.step (fun k => by rw [impl_GoodTable.j2]) (Ev.pos rfl (Ev.now _))
    have jf : Ev (fun k => impl_GoodTable.j2 k l (l.length : Int) (i : Int) false c l) ((List.range' (i + 1) d).all (okAt c l)) := Ev.step (fun k => by rw [impl_GoodTable.j2]) (Ev.neg (by simp) (by rw [w64 (by omega) (by omega)]; exact ih (i + 1) (by omega)))
    rw [range'_s, List.all_cons]
    refine Ev.step (fun k => by rw [impl_GoodTable.l0]) (Ev.pos (by omega) (Ev.pos (by omega) (Ev.pos (by omega) (Ev.cbind (isRowOf_eq _ _) ?_))))
    have jt0 : okAt c l i = false → Ev (fun k => impl_GoodTable.j2 k l (l.length : Int) (i : Int) true c l) (okAt c l i && (List.range' (i + 1) d).all (okAt c l)) := fun e => by rw [e]; exact jt
    have jf0 : okAt c l i = true → Ev (fun k => impl_GoodTable.j2 k l (l.length : Int) (i : Int) false c l) (okAt c l i && (List.range' (i + 1) d).all (okAt c l)) := fun e => by rw [e]; exact jf
    unfold impl_isWeight.f
    by_cases h1 : goodRow (rd_T52 l (i : Int)).f0.f0 = true
    case neg => exact Ev.neg (by simp [h1]) (jt0 (by unfold okAt; rw [Bool.eq_false_iff.mpr h1]; rfl))
    by_cases h2 : ((rd_T52 l (i : Int)).f0.f0.length : Int) = c
    case neg => exact Ev.neg (by simp [h2]) (jt0 (by unfold okAt; rw [h1, decide_eq_false h2]; rfl))
    refine Ev.pos (by simp [h1, h2]) (Ev.cbind (by rw [in_impl, Option.bind_some]) ?_)
    by_cases h3 : -1000000 ≤ (rd_T52 l (i : Int)).f1 ∧ (rd_T52 l (i : Int)).f1 ≤ 1000000
    case neg => exact Ev.neg (by simpa using h3) (jt0 (by unfold okAt; rw [h1, decide_eq_true h2, decide_eq_false h3]; rfl))
    refine Ev.pos (by simpa using h3) ?_
    by_cases h4 : (rd_T52 l (i : Int)).f1 = 0
    case pos => exact Ev.pos h4 (jt0 (by unfold okAt; rw [h1, decide_eq_true h2, decide_eq_true h3, decide_eq_true h4]; rfl))
    refine Ev.neg h4 ?_
    by_cases h5 : i = 0
    · exact Ev.neg (by omega) (jf0 (by unfold okAt; rw [h1, decide_eq_true h2, decide_eq_true h3, decide_eq_false h4, decide_eq_true h5]; rfl))
    · rw [w64 (x := (i : Int) - 1) (by omega) (by omega)]
      refine Ev.pos (by omega) (Ev.pos (by omega) (Ev.pos (by omega) (Ev.bind (cmp_impl _ _ (by have := hr ((i : Int) - 1); omega)) ?_)))
      by_cases h6 : cmpL (rd_T52 l ((i : Int) - 1)).f0.f0 (rd_T52 l (i : Int)).f0.f0 < 0
      · rw [decide_eq_false (by omega)]
        exact jf0 (by unfold okAt; rw [h1, decide_eq_true h2, decide_eq_true h3, decide_eq_false h4, decide_eq_false h5, decide_eq_true h6]; rfl)
      · rw [decide_eq_true (by omega)]
        exact jt0 (by unfold okAt; rw [h1, decide_eq_true h2, decide_eq_true h3, decide_eq_false h4, decide_eq_false h5, decide_eq_false h6]; rfl)
theorem table_impl (c : Int) (l : List S52) (hl : l.length ≤ 1048576) (hr : ∀ i : Int, (rd_T52 l i).f0.f0.length ≤ 1048576) : Ev (fun k => impl_GoodTable.f k c l) (goodTable c l) := by
  unfold impl_GoodTable.f impl_isColumns.f goodTable
  have jt : Ev (fun k => impl_GoodTable.j0 k true c l) false := Ev.step (fun k => by rw [impl_GoodTable.j0]) (Ev.pos rfl (Ev.now _))
  refine Ev.cbind (by rw [in_impl, Option.bind_some]) ?_
  by_cases h : 0 ≤ c ∧ c ≤ 6
  · refine Ev.pos (by simpa using h) ?_
    by_cases h2 : l.length ≤ 60
    · rw [decide_eq_false (show ¬ (l.length : Int) > 60 by omega)]
      have ht : Ev (fun k => impl_GoodTable.l0 k l (l.length : Int) 0 c l) ((List.range' 0 l.length).all (okAt c l)) := table_impl_l c l hl hr l.length 0 (by omega)
      refine Ev.step (fun k => by rw [impl_GoodTable.j0]) (Ev.neg (by decide) (Ev.eq ht ?_))
      simp [h, h2]
    · rw [decide_eq_true (show (l.length : Int) > 60 by omega)]
      exact Ev.eq jt (by simp [h2])
  · exact Ev.neg (by simpa using h) (Ev.eq jt (by simp [h]))

/-- What is read of a list whose parts are short is short. -/
theorem rd_rows (l : List S52) (n : Nat) (h : ∀ x ∈ l, x.f0.f0.length ≤ n) (i : Int) : (rd_T52 l i).f0.f0.length ≤ n := by
  unfold rd_T52
  rw [List.getD_eq_getElem?_getD]
  by_cases hi : i.toNat < l.length
  · rw [List.getElem?_eq_getElem hi]; exact h _ (List.getElem_mem hi)
  · rw [List.getElem?_eq_none (by omega)]; exact Nat.zero_le _
theorem rdW_lt {l : List S52} {i : Nat} (h : i < l.length) : rd_T52 l (i : Int) = l[i] := by simp [rd_T52, h]
/-- A predicate over the rest of a list, by places. -/
theorem all_places (p : S52 → Bool) (l : List S52) (d : Nat) : ∀ (i : Nat), i + d = l.length → (l.drop i).all p = (List.range' i d).all (fun j : Nat => p (rd_T52 l (j : Int))) := by
  induction d with
  | zero => intro i hi; rw [List.drop_of_length_le (by omega)]; rfl
  | succ d ih =>
    intro i hi
    have hlt : i < l.length := by omega
    rw [drop_cons hlt, List.all_cons, range'_s, List.all_cons, ih (i + 1) (by omega), rdW_lt hlt]

end Go.Proofs.Ytmelechhnimlnac.Pure
