/- The plain law of GoodTableau: both functions answer alike. No conditions. -/
import Derived.Test.YtfbomhedhfkcpaaHFnExactGoodTableau
import Derived.Test.YtfbomhedhfkcpaaQRow
import Derived.Test.YtfbomhedhfkcpaaG22
import Derived.Test.YtfbomhedhfkcpaaG23
namespace Go.Proofs.Ytfbomhedhfkcpaa.Pure
open Go.RowKit Go.Proofs.Ytfbomhedhfkcpaa.G Go.Proofs.Ytfbomhedhfkcpaa.X Go.Proofs.YtfbomhedhfkcpaaW.PrintWords Go.Proofs.Ytfbomhedhfkcpaa.HFnExactGoodTableau
set_option linter.unusedVariables false

def notNeg (x : Int) : Bool := decide (x ≥ 0)
def tabRow (c : Int) (r : S99) : Bool := goodRow r.f0 && (decide ((r.f0.length : Int) = c) && r.f0.all notNeg)
theorem rowOf_eq (l : List Int) (c : Int) : impl_isRowOf.f l c = some (goodRow l && decide ((l.length : Int) = c)) := by
  unfold impl_isRowOf.f
  rw [goodRow_impl, Option.bind_some]
  cases goodRow l <;> simp
  by_cases h : (l.length : Int) = c <;> simp [h]
theorem rdR_lt {l : List S99} {i : Nat} (h : i < l.length) : rd_T99 l (i : Int) = l[i] := by simp [rd_T99, h]

theorem cells_spec (c : Int) (rows : List S99) (i : Int) (l : List Int) (hl : l.length ≤ 1048576) (r : Bool)
    (hn : Ev (fun k => spec_GoodTableau.l0 k rows (rows.length : Int) (wrap64 (i + 1)) c rows) r) (d : Nat) : ∀ (j : Nat), j + d = l.length →
    Ev (fun k => spec_GoodTableau.l1 k rows (rows.length : Int) i l (l.length : Int) (j : Int) c rows) ((l.drop j).all notNeg && r) := by
  induction d with
  | zero =>
    intro j hj
    rw [List.drop_of_length_le (by omega)]
    exact Ev.step (fun k => by rw [spec_GoodTableau.l1]) (Ev.neg (by omega) (Ev.eq hn (by simp)))
  | succ d ih =>
    intro j hj
    have hlt : j < l.length := by omega
    rw [drop_cons hlt, List.all_cons]
    refine Ev.step (fun k => by rw [spec_GoodTableau.l1]) (Ev.pos (by omega) (Ev.pos (by omega) (Ev.pos (by omega) ?_)))
    rw [rd_lt hlt, w64 (x := (j : Int) + 1) (by omega) (by omega)]
    by_cases h : l[j] < 0
    · exact Ev.pos h (Ev.eq (Ev.now false) (by rw [show notNeg l[j] = false from decide_eq_false (by omega)]; rfl))
    · exact Ev.neg h (Ev.eq (ih (j + 1) (by omega)) (by rw [show notNeg l[j] = true from decide_eq_true (by omega)]; rfl))

theorem tab_spec (c : Int) (l : List S99) (hl : l.length ≤ 1048576) (hs : ∀ r ∈ l, r.f0.length ≤ 1048576) (d : Nat) : ∀ (i : Nat), i + d = l.length →
    Ev (fun k => spec_GoodTableau.l0 k l (l.length : Int) (i : Int) c l) ((l.drop i).all (tabRow c) && (decide (1 ≤ c ∧ c ≤ 6) && decide (1 ≤ l.length ∧ l.length ≤ 8))) := by
  induction d with
  | zero =>
    intro i hi
    rw [List.drop_of_length_le (by omega)]
    refine Ev.step (fun k => by rw [spec_GoodTableau.l0]) (Ev.neg (by omega) (Ev.cbind (in_spec _ _ _) ?_))
    by_cases h : 1 ≤ c ∧ c ≤ 6
    · refine Ev.pos (by simpa using h) (Ev.cbind (in_spec _ _ _) (Ev.eq (Ev.now _) ?_))
      rw [decide_eq_true h]
      by_cases h2 : 1 ≤ l.length ∧ l.length ≤ 8
      · rw [decide_eq_true (show 1 ≤ (l.length : Int) ∧ (l.length : Int) ≤ 8 by omega), decide_eq_true h2]; rfl
      · rw [decide_eq_false (show ¬ (1 ≤ (l.length : Int) ∧ (l.length : Int) ≤ 8) by omega), decide_eq_false h2]; rfl
    · exact Ev.neg (by simpa using h) (Ev.eq (Ev.now false) (by rw [decide_eq_false h]; simp))
  | succ d ih =>
    intro i hi
    have hlt : i < l.length := by omega
    have hr := hs _ (List.getElem_mem hlt)
    rw [drop_cons hlt, List.all_cons]
    have jt : tabRow c l[i] = false → Ev (fun k => spec_GoodTableau.j1 k l (l.length : Int) (i : Int) true c l l[i].f0) (tabRow c l[i] && (l.drop (i + 1)).all (tabRow c) && (decide (1 ≤ c ∧ c ≤ 6) && decide (1 ≤ l.length ∧ l.length ≤ 8))) := fun e => by
      rw [e]; exact Ev.step (fun k => by rw [spec_GoodTableau.j1]) (Ev.pos rfl (Ev.eq (Ev.now false) rfl))
    refine Ev.step (fun k => by rw [spec_GoodTableau.l0]) (Ev.pos (by omega) (Ev.pos (by omega) (Ev.pos (by omega) ?_)))
    rw [rdR_lt hlt]
    refine Ev.bind (goodRow_spec _ (by omega)) ?_
    by_cases h1 : goodRow l[i].f0 = true
    case neg => exact Ev.neg h1 (jt (by unfold tabRow; rw [Bool.eq_false_iff.mpr h1]; rfl))
    refine Ev.pos h1 ?_
    by_cases h2 : (l[i].f0.length : Int) = c
    case neg =>
      rw [show ((l[i].f0.length : Int) != c) = true by simp [h2]]
      exact jt (by unfold tabRow; rw [h1, decide_eq_false h2]; rfl)
    rw [show ((l[i].f0.length : Int) != c) = false by simp [h2]]
    have hn := ih (i + 1) (by omega)
    have hw : wrap64 ((i : Int) + 1) = ((i + 1 : Nat) : Int) := w64 (by omega) (by omega)
    have hc : Ev (fun k => spec_GoodTableau.l1 k l (l.length : Int) (i : Int) l[i].f0 (l[i].f0.length : Int) 0 c l) _ := cells_spec c l (i : Int) l[i].f0 hr _ (by rw [hw]; exact hn) l[i].f0.length 0 (by omega)
    refine Ev.step (fun k => by rw [spec_GoodTableau.j1]) (Ev.neg (by decide) (Ev.eq hc ?_))
    rw [List.drop_zero]
    unfold tabRow
    rw [h1, decide_eq_true h2, Bool.true_and, Bool.true_and, Bool.and_assoc]

theorem FnExactGoodTableau : laws_FnExactGoodTableau.Pure := law fun x0 h0 => by
  have k0 : x0.f1.length + (x0.f1.map fun y => y.f0.length).sum ≤ 1048576 := h0
  have hs : ∀ r ∈ x0.f1, r.f0.length ≤ 1048576 := fun r hr => by have := sum_mem (fun y : S99 => y.f0.length) x0.f1 r hr; omega
  refine ⟨decide (1 ≤ x0.f0 ∧ x0.f0 ≤ 6) && (decide (1 ≤ x0.f1.length ∧ x0.f1.length ≤ 8) && x0.f1.all (tabRow x0.f0)), ?_, ?_⟩
  · unfold spec_GoodTableau.f
    refine Ev.eq (tab_spec x0.f0 x0.f1 (by omega) hs x0.f1.length 0 (by omega)) ?_
    rw [List.drop_zero, Bool.and_comm, Bool.and_assoc]
  · unfold impl_GoodTableau.f impl_areAll_impl_Row__impl_GoodTableau_1.f
    refine Ev.cbind (in_impl _ _ _) ?_
    by_cases h : 1 ≤ x0.f0 ∧ x0.f0 ≤ 6
    · refine Ev.pos (by simpa using h) (Ev.cbind (in_impl _ _ _) ?_)
      by_cases h2 : 1 ≤ x0.f1.length ∧ x0.f1.length ≤ 8
      · refine Ev.pos (by simp; omega) (Ev.cbind (allO_eq (p := tabRow x0.f0) _ (fun t ht => ?_)) (Ev.eq (Ev.now _) (by rw [decide_eq_true h, decide_eq_true h2]; rfl)))
        unfold impl_GoodTableau_1.f tabRow
        rw [rowOf_eq, Option.bind_some]
        have ha : impl_areAll_int__impl_GoodTableau_1_1.f t.f0 = some (t.f0.all notNeg) := by
          unfold impl_areAll_int__impl_GoodTableau_1_1.f
          exact allO_eq _ (fun x _ => rfl)
        rw [ha]
        cases goodRow t.f0
        · rfl
        · by_cases h3 : (t.f0.length : Int) = x0.f0 <;> simp [h3]
      · exact Ev.neg (by simp; omega) (Ev.eq (Ev.now false) (by rw [decide_eq_false h2]; simp))
    · exact Ev.neg (by simpa using h) (Ev.eq (Ev.now false) (by rw [decide_eq_false h]; simp))

end Go.Proofs.Ytfbomhedhfkcpaa.Pure
