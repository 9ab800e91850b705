/- Groups: both ask the same of good groups. No conditions. -/
import Derived.Test.YtaddemalepndfaaG3
import Derived.Test.YtaddemalepndfaaG9
import Derived.Test.YtaddemalepndfaaG7
import Derived.Test.YtaddemalepndfaaG1
import Derived.Test.YtaddemalepndfaaQCmp
namespace Go.Proofs.Ytaddemalepndfaa.Pure
open Go.RowKit Go.Proofs.Ytaddemalepndfaa.G Go.Proofs.Ytaddemalepndfaa.X Go.Proofs.YtaddemalepndfaaW.PrintWords Go.Proofs.YtaddemalepndfaaW.PrintLast
set_option linter.unusedVariables false

theorem rangeG (i d : Nat) : List.range' i (d + 1) = i :: List.range' (i + 1) d := rfl
theorem isRowOfG (l : List Int) (c : Int) : impl_isRowOf.f l c = some (goodRow l && decide ((l.length : Int) = c)) := by
  unfold impl_isRowOf.f
  rw [goodRow_impl, Option.bind_some]
  cases goodRow l <;> simp
  by_cases h : (l.length : Int) = c <;> simp [h]
abbrev rdG (l : List S45) (i : Int) : S45 := rd_T45 l i
def sumOk (n : Int) : Bool := decide (-100000000000000 ≤ n ∧ n ≤ 100000000000000)
/-- A group at a place is as asked. -/
def okG (l : List S45) (j : Nat) : Bool :=
  goodRow (rdG l (j : Int)).f0.f0 && (decide (((rdG l (j : Int)).f0.f0.length : Int) = ((rdG l 0).f0.f0.length : Int)) && (sumOk (rdG l (j : Int)).f1 && (sumOk (rdG l (j : Int)).f2 && (!decide ((rdG l (j : Int)).f1 = 0 ∧ (rdG l (j : Int)).f2 = 0) && (decide (j = 0) || decide (cmpL (rdG l ((j : Int) - 1)).f0.f0 (rdG l (j : Int)).f0.f0 < 0))))))
def goodGroups (l : List S45) : Bool := (List.range' 0 l.length).all (okG l) && decide (l.length ≤ 60)
theorem sum_spec (n : Int) : spec_l5Sum.f n = some (sumOk n) := by unfold spec_l5Sum.f; rw [in_spec]; rfl
theorem sum_impl (n : Int) : impl_isSum.f n = some (sumOk n) := by unfold impl_isSum.f; rw [in_impl]; rfl
theorem okG_mk {l : List S45} {j : Nat} (h1 : goodRow (rdG l (j : Int)).f0.f0 = true) (h2 : ((rdG l (j : Int)).f0.f0.length : Int) = ((rdG l 0).f0.f0.length : Int)) (h3 : sumOk (rdG l (j : Int)).f1 = true) (h4 : sumOk (rdG l (j : Int)).f2 = true)
    (h5 : ¬ ((rdG l (j : Int)).f1 = 0 ∧ (rdG l (j : Int)).f2 = 0)) : okG l j = (decide (j = 0) || decide (cmpL (rdG l ((j : Int) - 1)).f0.f0 (rdG l (j : Int)).f0.f0 < 0)) := by
  unfold okG
  rw [h1, decide_eq_true h2, h3, h4, decide_eq_false h5]
  rfl

theorem groups_spec_l (l : List S45) (hl : l.length ≤ 1048576) (hr : ∀ i : Int, (rdG l i).f0.f0.length ≤ 1048576) (d : Nat) : ∀ (i : Nat), i + d = l.length →
    Ev (fun k => spec_GoodGroups.l0 k l l (l.length : Int) (i : Int)) ((List.range' i d).all (okG l) && decide (l.length ≤ 60)) := by
  induction d with
  | zero =>
    intro i hi
    exact Ev.step (fun k => by rw [spec_GoodGroups.l0]) (Ev.neg (by omega) (Ev.eq (Ev.now _) (by simp; omega)))
  | succ d ih =>
    intro i hi
    have jt : Ev (fun k => spec_GoodGroups.j1 k l l (l.length : Int) (i : Int) true) false := Ev.step (fun k => by rw [spec_GoodGroups.j1]) (Ev.pos rfl (Ev.now _))
    have jf : Ev (fun k => spec_GoodGroups.j1 k l l (l.length : Int) (i : Int) false) ((List.range' (i + 1) d).all (okG l) && decide (l.length ≤ 60)) := Ev.step (fun k => by rw [spec_GoodGroups.j1]) (Ev.neg (by simp) (by rw [w64 (by omega) (by omega)]; exact ih (i + 1) (by omega)))
    rw [rangeG, List.all_cons]
    have jt0 : okG l i = false → Ev (fun k => spec_GoodGroups.j1 k l l (l.length : Int) (i : Int) true) (okG l i && (List.range' (i + 1) d).all (okG l) && decide (l.length ≤ 60)) := fun e => by rw [e]; exact jt
    have jf0 : okG l i = true → Ev (fun k => spec_GoodGroups.j1 k l l (l.length : Int) (i : Int) false) (okG l i && (List.range' (i + 1) d).all (okG l) && decide (l.length ≤ 60)) := fun e => by rw [e, Bool.true_and]; exact jf
    refine Ev.step (fun k => by rw [spec_GoodGroups.l0]) (Ev.pos (by omega) (Ev.pos (by omega) (Ev.pos (by omega) (Ev.bind (goodRow_spec _ (Nat.le_trans (hr i) (by decide))) ?_))))
    by_cases h1 : goodRow (rdG l (i : Int)).f0.f0 = true
    case neg => exact Ev.neg h1 (jt0 (by unfold okG; rw [Bool.eq_false_iff.mpr h1]; rfl))
    refine Ev.pos h1 (Ev.pos (by omega) ?_)
    by_cases h2 : ((rdG l (i : Int)).f0.f0.length : Int) = ((rdG l 0).f0.f0.length : Int)
    case neg => exact Ev.neg h2 (jt0 (by unfold okG; rw [h1, decide_eq_false h2]; rfl))
    refine Ev.pos h2 (Ev.cbind (sum_spec _) ?_)
    by_cases h3 : sumOk (rdG l (i : Int)).f1 = true
    case neg => exact Ev.neg h3 (jt0 (by unfold okG; rw [h1, decide_eq_true h2, Bool.eq_false_iff.mpr h3]; rfl))
    refine Ev.pos h3 (Ev.cbind (sum_spec _) ?_)
    by_cases h4 : sumOk (rdG l (i : Int)).f2 = true
    case neg => exact Ev.neg h4 (jt0 (by unfold okG; rw [h1, decide_eq_true h2, h3, Bool.eq_false_iff.mpr h4]; rfl))
    refine Ev.pos h4 ?_
    by_cases h5 : (rdG l (i : Int)).f1 = 0 ∧ (rdG l (i : Int)).f2 = 0
    case pos => exact Ev.pos h5.1 (Ev.pos h5.2 (jt0 (by unfold okG; rw [h1, decide_eq_true h2, h3, h4, decide_eq_true h5]; rfl)))
    have hk := okG_mk h1 h2 h3 h4 h5
    have tl : Ev (fun k => if (i : Int) > 0 then (if 0 ≤ (wrap64 ((i : Int) - 1)) then (if (wrap64 ((i : Int) - 1)) < (l.length : Int) then ((spec_l1Compare.f k ((rdG l (wrap64 ((i : Int) - 1))).f0.f0) ((rdG l (i : Int)).f0.f0)).bind fun t => (spec_GoodGroups.j1 k l l (l.length : Int) (i : Int) (decide (t ≥ 0)))) else (none)) else (none)) else (spec_GoodGroups.j1 k l l (l.length : Int) (i : Int) false)) (okG l i && (List.range' (i + 1) d).all (okG l) && decide (l.length ≤ 60)) := by
      by_cases h6 : i = 0
      · exact Ev.neg (by omega) (jf0 (by rw [hk, decide_eq_true h6]; rfl))
      · rw [w64 (x := (i : Int) - 1) (by omega) (by omega)]
        refine Ev.pos (by omega) (Ev.pos (by omega) (Ev.pos (by omega) (Ev.bind (cmp_spec _ _ (Nat.le_trans (hr ((i : Int) - 1)) (by decide))) ?_)))
        by_cases h7 : cmpL (rdG l ((i : Int) - 1)).f0.f0 (rdG l (i : Int)).f0.f0 < 0
        · rw [decide_eq_false (show ¬ cmpL (rdG l ((i : Int) - 1)).f0.f0 (rdG l (i : Int)).f0.f0 ≥ 0 by omega)]
          exact jf0 (by rw [hk, decide_eq_true h7]; simp)
        · rw [decide_eq_true (show cmpL (rdG l ((i : Int) - 1)).f0.f0 (rdG l (i : Int)).f0.f0 ≥ 0 by omega)]
          exact jt0 (by rw [hk, decide_eq_false h7, decide_eq_false h6]; rfl)
    by_cases h6 : (rdG l (i : Int)).f1 = 0
    · exact Ev.pos h6 (Ev.neg (fun e => h5 ⟨h6, e⟩) tl)
    · exact Ev.neg h6 tl
theorem groups_spec (l : List S45) (hl : l.length ≤ 1048576) (hr : ∀ i : Int, (rdG l i).f0.f0.length ≤ 1048576) : Ev (fun k => spec_GoodGroups.f k l) (goodGroups l) := by
  unfold spec_GoodGroups.f goodGroups
  exact groups_spec_l l hl hr l.length 0 (by omega)
theorem keyLength_eq {l : List S45} (h : 0 < l.length) : impl_keyLength.f l = some ((rdG l 0).f0.f0.length : Int) := by
  unfold impl_keyLength.f
  rw [if_neg (by omega), if_pos (by omega)]
theorem groups_impl_l (l : List S45) (hl : l.length ≤ 1048576) (hr : ∀ i : Int, (rdG l i).f0.f0.length ≤ 1048576) (d : Nat) : ∀ (i : Nat), i + d = l.length →
    Ev (fun k => impl_GoodGroups.l0 k l l (l.length : Int) (i : Int)) ((List.range' i d).all (okG l) && decide (l.length ≤ 60)) := by
  induction d with
  | zero =>
    intro i hi
    exact Ev.step (fun k => by rw [impl_GoodGroups.l0]) (Ev.neg (by omega) (Ev.eq (Ev.now _) (by simp; omega)))
  | succ d ih =>
    intro i hi
    have jt : Ev (fun k => impl_GoodGroups.j1 k l l (l.length : Int) (i : Int) true) false := Ev.step (fun k => by rw [impl_GoodGroups.j1]) (Ev.pos rfl (Ev.now _))
    have jf : Ev (fun k => impl_GoodGroups.j1 k l l (l.length : Int) (i : Int) false) ((List.range' (i + 1) d).all (okG l) && decide (l.length ≤ 60)) := Ev.step (fun k => by rw [impl_GoodGroups.j1]) (Ev.neg (by simp) (by rw [w64 (by omega) (by omega)]; exact ih (i + 1) (by omega)))
    rw [rangeG, List.all_cons]
    have jt0 : okG l i = false → Ev (fun k => impl_GoodGroups.j1 k l l (l.length : Int) (i : Int) true) (okG l i && (List.range' (i + 1) d).all (okG l) && decide (l.length ≤ 60)) := fun e => by rw [e]; exact jt
    have jf0 : okG l i = true → Ev (fun k => impl_GoodGroups.j1 k l l (l.length : Int) (i : Int) false) (okG l i && (List.range' (i + 1) d).all (okG l) && decide (l.length ≤ 60)) := fun e => by rw [e, Bool.true_and]; exact jf
    refine Ev.step (fun k => by rw [impl_GoodGroups.l0]) (Ev.pos (by omega) (Ev.pos (by omega) (Ev.pos (by omega) (Ev.cbind (keyLength_eq (by omega)) (Ev.cbind (isRowOfG _ _) ?_)))))
    by_cases h1 : goodRow (rdG l (i : Int)).f0.f0 = true
    case neg => exact Ev.neg (by simp [h1]) (jt0 (by unfold okG; rw [Bool.eq_false_iff.mpr h1]; rfl))
    by_cases h2 : ((rdG l (i : Int)).f0.f0.length : Int) = ((rdG l 0).f0.f0.length : Int)
    case neg => exact Ev.neg (by rw [decide_eq_false h2]; simp) (jt0 (by unfold okG; rw [h1, decide_eq_false h2]; rfl))
    refine Ev.pos (by rw [h1, decide_eq_true h2]; rfl) (Ev.cbind (sum_impl _) ?_)
    by_cases h3 : sumOk (rdG l (i : Int)).f1 = true
    case neg => exact Ev.neg h3 (jt0 (by unfold okG; rw [h1, decide_eq_true h2, Bool.eq_false_iff.mpr h3]; rfl))
    refine Ev.pos h3 (Ev.cbind (sum_impl _) ?_)
    by_cases h4 : sumOk (rdG l (i : Int)).f2 = true
    case neg => exact Ev.neg h4 (jt0 (by unfold okG; rw [h1, decide_eq_true h2, h3, Bool.eq_false_iff.mpr h4]; rfl))
    refine Ev.pos h4 ?_
    by_cases h5 : (rdG l (i : Int)).f1 = 0 ∧ (rdG l (i : Int)).f2 = 0
    case pos => exact Ev.pos h5.1 (Ev.pos h5.2 (jt0 (by unfold okG; rw [h1, decide_eq_true h2, h3, h4, decide_eq_true h5]; rfl)))
    have hk := okG_mk h1 h2 h3 h4 h5
    have tl : Ev (fun k => if (i : Int) > 0 then (if 0 ≤ (wrap64 ((i : Int) - 1)) then (if (wrap64 ((i : Int) - 1)) < (l.length : Int) then ((impl_compareRows.f k ((rdG l (wrap64 ((i : Int) - 1))).f0.f0) ((rdG l (i : Int)).f0.f0)).bind fun t => (impl_GoodGroups.j1 k l l (l.length : Int) (i : Int) (decide (t ≥ 0)))) else (none)) else (none)) else (impl_GoodGroups.j1 k l l (l.length : Int) (i : Int) false)) (okG l i && (List.range' (i + 1) d).all (okG l) && decide (l.length ≤ 60)) := by
      by_cases h6 : i = 0
      · exact Ev.neg (by omega) (jf0 (by rw [hk, decide_eq_true h6]; rfl))
      · rw [w64 (x := (i : Int) - 1) (by omega) (by omega)]
        refine Ev.pos (by omega) (Ev.pos (by omega) (Ev.pos (by omega) (Ev.bind (cmp_impl _ _ (Nat.le_trans (hr ((i : Int) - 1)) (by decide))) ?_)))
        by_cases h7 : cmpL (rdG l ((i : Int) - 1)).f0.f0 (rdG l (i : Int)).f0.f0 < 0
        · rw [decide_eq_false (show ¬ cmpL (rdG l ((i : Int) - 1)).f0.f0 (rdG l (i : Int)).f0.f0 ≥ 0 by omega)]
          exact jf0 (by rw [hk, decide_eq_true h7]; simp)
        · rw [decide_eq_true (show cmpL (rdG l ((i : Int) - 1)).f0.f0 (rdG l (i : Int)).f0.f0 ≥ 0 by omega)]
          exact jt0 (by rw [hk, decide_eq_false h7, decide_eq_false h6]; rfl)
    by_cases h6 : (rdG l (i : Int)).f1 = 0
    · exact Ev.pos h6 (Ev.neg (fun e => h5 ⟨h6, e⟩) tl)
    · exact Ev.neg h6 tl
theorem groups_impl (l : List S45) (hl : l.length ≤ 1048576) (hr : ∀ i : Int, (rdG l i).f0.f0.length ≤ 1048576) : Ev (fun k => impl_GoodGroups.f k l) (goodGroups l) := by
  unfold impl_GoodGroups.f goodGroups
  exact groups_impl_l l hl hr l.length 0 (by omega)
theorem rd_keys (l : List S45) (n : Nat) (h : ∀ x ∈ l, x.f0.f0.length ≤ n) (i : Int) : (rdG l i).f0.f0.length ≤ n := by
  unfold rdG rd_T45
  rw [List.getD_eq_getElem?_getD]
  by_cases hi : i.toNat < l.length
  · rw [List.getElem?_eq_getElem hi]; exact h _ (List.getElem_mem hi)
  · rw [List.getElem?_eq_none (by omega)]; exact Nat.zero_le _

end Go.Proofs.Ytaddemalepndfaa.Pure
