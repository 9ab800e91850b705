/- Columns and cells that are picked: both alike. No conditions. -/
import Derived.Test.YtmelechhnimlnaaG10
import Derived.Test.YtmelechhnimlnaaG9
import Derived.Test.YtmelechhnimlnaaG11
import Derived.Test.YtmelechhnimlnaaG3
import Derived.Test.YtmelechhnimlnaaQRow
namespace Go.Proofs.Ytmelechhnimlnaa.Pure
open Go.RowKit Go.Proofs.Ytmelechhnimlnaa.G Go.Proofs.Ytmelechhnimlnaa.X Go.Proofs.YtmelechhnimlnaaW.PrintWords Go.Proofs.YtmelechhnimlnaaW.PrintLast
set_option linter.unusedVariables false

def placeB (n x : Int) : Bool := decide (0 ≤ x ∧ x < n)
def colsB (n : Int) (l : List Int) : Bool := decide (l.length ≤ 6) && l.all (placeB n)

theorem cols_spec_l (n : Int) (l : List Int) (hl : l.length ≤ 9223372036854775806) (d : Nat) : ∀ (i : Nat), i + d = l.length →
    Ev (fun k => spec_l1Columns.l0 k l n l (l.length : Int) (i : Int)) (decide (l.length ≤ 6) && (l.drop i).all (placeB n)) := by
  induction d with
  | zero =>
    intro i hi
    rw [List.drop_of_length_le (by omega)]
    exact Ev.step (fun k => by rw [spec_l1Columns.l0]) (Ev.neg (by omega) (Ev.eq (Ev.now _) (by simp; omega)))
  | succ d ih =>
    intro i hi
    have hlt : i < l.length := by omega
    rw [drop_cons hlt, List.all_cons]
    refine Ev.step (fun k => by rw [spec_l1Columns.l0]) (Ev.pos (by omega) (Ev.pos (by omega) (Ev.pos (by omega) ?_)))
    rw [rd_lt hlt, w64 (x := (i : Int) + 1) (by omega) (by omega)]
    unfold placeB
    by_cases h : l[i] < 0
    · exact Ev.pos h (Ev.eq (Ev.now _) (by rw [decide_eq_false (show ¬ (0 ≤ l[i] ∧ l[i] < n) by omega)]; simp))
    · refine Ev.neg h ?_
      by_cases h2 : l[i] ≥ n
      · exact Ev.pos h2 (Ev.eq (Ev.now _) (by rw [decide_eq_false (show ¬ (0 ≤ l[i] ∧ l[i] < n) by omega)]; simp))
      · exact Ev.neg h2 (Ev.eq (ih (i + 1) (by omega)) (by rw [decide_eq_true (show 0 ≤ l[i] ∧ l[i] < n by omega)]; rfl))
theorem cols_spec (n : Int) (l : List Int) (hl : l.length ≤ 9223372036854775806) : Ev (fun k => spec_l1Columns.f k l n) (colsB n l) := by
  unfold spec_l1Columns.f
  simpa [colsB] using cols_spec_l n l hl l.length 0 (by omega)
theorem place_eq (x n : Int) : impl_isPlace.f x n = some (placeB n x) := by
  unfold impl_isPlace.f placeB
  by_cases h : x ≥ 0
  · rw [if_pos h]; simp [h]
  · rw [if_neg h]; simp; omega
theorem cols_impl (n : Int) (l : List Int) : impl_areColumns.f l n = some (colsB n l) := by
  have h1 : impl_areAll_int__impl_areColumns_1.f l n = some (l.all (placeB n)) := by
    unfold impl_areAll_int__impl_areColumns_1.f
    exact allO_eq l (fun x _ => by simp only [impl_areColumns_1.f, place_eq, Option.bind_some])
  unfold impl_areColumns.f colsB
  by_cases h : l.length ≤ 6
  · rw [if_pos (by omega), h1]; simp [h]
  · rw [if_neg (by omega)]; simp [h]

/-- Picked cells. -/
theorem pick_spec_l (r l : List Int) (hl : l.length ≤ 1048576) (hp : ∀ x ∈ l, 0 ≤ x ∧ x < (r.length : Int)) (d : Nat) : ∀ (i : Nat) (o : List Int), i + d = l.length → o.length ≤ i →
    Ev (fun k => spec_l1Pick.l0 k l (l.length : Int) (i : Int) r o) (o ++ (l.drop i).map (rd r)) := by
  induction d with
  | zero =>
    intro i o hi ho
    rw [List.drop_of_length_le (by omega)]
    exact Ev.step (fun k => by rw [spec_l1Pick.l0]) (Ev.neg (by omega) (Ev.eq (Ev.now _) (by simp)))
  | succ d ih =>
    intro i o hi ho
    have hlt : i < l.length := by omega
    obtain ⟨p1, p2⟩ := hp l[i] (List.getElem_mem hlt)
    rw [drop_cons hlt, List.map_cons]
    refine Ev.step (fun k => by rw [spec_l1Pick.l0]) (Ev.pos (by omega) (Ev.pos (by omega) (Ev.pos (by omega) ?_)))
    rw [rd_lt hlt, w64 (x := (i : Int) + 1) (by omega) (by omega)]
    exact Ev.pos p1 (Ev.pos p2 (Ev.pos (by omega) (Ev.eq (ih (i + 1) _ (by omega) (by simp; omega)) (by simp))))
theorem pick_spec (r l : List Int) (hl : l.length ≤ 1048576) (hp : ∀ x ∈ l, 0 ≤ x ∧ x < (r.length : Int)) : Ev (fun k => spec_l1Pick.f k r l) (l.map (rd r)) := by
  unfold spec_l1Pick.f
  simpa using pick_spec_l r l hl hp l.length 0 [] (by omega) (by simp)
theorem pick_impl_l (r l : List Int) (hl : l.length ≤ 1048576) (hp : ∀ x ∈ l, 0 ≤ x ∧ x < (r.length : Int)) (d : Nat) : ∀ (i : Nat) (o : List Int), i + d = l.length → o.length ≤ i →
    Ev (fun k => impl_Row_picked.l0 k l (l.length : Int) (i : Int) r o) (o ++ (l.drop i).map (rd r)) := by
  induction d with
  | zero =>
    intro i o hi ho
    rw [List.drop_of_length_le (by omega)]
    exact Ev.step (fun k => by rw [impl_Row_picked.l0]) (Ev.neg (by omega) (Ev.eq (Ev.now _) (by simp)))
  | succ d ih =>
    intro i o hi ho
    have hlt : i < l.length := by omega
    obtain ⟨p1, p2⟩ := hp l[i] (List.getElem_mem hlt)
    rw [drop_cons hlt, List.map_cons]
    refine Ev.step (fun k => by rw [impl_Row_picked.l0]) (Ev.pos (by omega) (Ev.pos (by omega) (Ev.pos (by omega) ?_)))
    rw [rd_lt hlt, w64 (x := (i : Int) + 1) (by omega) (by omega)]
    exact Ev.pos p1 (Ev.pos p2 (Ev.pos (by omega) (Ev.eq (ih (i + 1) _ (by omega) (by simp; omega)) (by simp))))
theorem pick_impl (r l : List Int) (hl : l.length ≤ 1048576) (hp : ∀ x ∈ l, 0 ≤ x ∧ x < (r.length : Int)) : Ev (fun k => impl_Row_picked.f k r l) (l.map (rd r)) := by
  unfold impl_Row_picked.f
  simpa using pick_impl_l r l hl hp l.length 0 [] (by omega) (by simp)
theorem colsB_mem {n : Int} {l : List Int} (h : colsB n l = true) : l.length ≤ 6 ∧ ∀ x ∈ l, 0 ≤ x ∧ x < n := by
  unfold colsB placeB at h
  simpa using h

end Go.Proofs.Ytmelechhnimlnaa.Pure
