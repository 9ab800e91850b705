/- Rows: the plain helpers, and that both ask the same of a good row. No conditions. -/
import Derived.Test.YtmelechhnimlnaeDoorG1
import Derived.Test.YtmelechhnimlnaeDoorG2
import Derived.Test.YtmelechhnimlnaeDoorQBase
namespace Go.Proofs.YtmelechhnimlnaeDoor.Pure
open Go.RowKit Go.Proofs.YtmelechhnimlnaeDoor.G Go.Proofs.YtmelechhnimlnaeDoor.X Go.Proofs.YtmelechhnimlnaeDoorW.PrintWords Go.Proofs.YtmelechhnimlnaeDoorW.PrintLast
set_option linter.unusedVariables false

theorem in_spec (a b c : Int) : spec_l1In.f a b c = some (decide (b ≤ a ∧ a ≤ c)) := by
  unfold spec_l1In.f
  by_cases h : a ≥ b
  · rw [if_pos h]; simp [h]
  · rw [if_neg h]; simp; omega
theorem in_impl (a b c : Int) : impl_within.f a b c = some (decide (b ≤ a ∧ a ≤ c)) := by
  unfold impl_within.f
  by_cases h : b ≤ a
  · rw [if_pos h]; simp [h]
  · rw [if_neg h]; simp [h]

/-- A number is a cell. -/
def cellB (x : Int) : Bool := decide (-100000 ≤ x ∧ x ≤ 100000)
def goodRow (l : List Int) : Bool := decide (l.length ≤ 6) && l.all cellB

theorem goodRow_l (l : List Int) (hl : l.length ≤ 9223372036854775806) (d : Nat) : ∀ (i : Nat), i + d = l.length →
    Ev (fun k => spec_GoodRow.l0 k l (l.length : Int) (i : Int) l) (decide (l.length ≤ 6) && (l.drop i).all cellB) := by
  induction d with
  | zero =>
    intro i hi
    refine Ev.step (f := fun _ => some (decide ((l.length : Int) ≤ 6))) (fun k => by simp only [spec_GoodRow.l0]; rw [if_neg (by omega)]) (Ev.eq (Ev.now _) ?_)
    rw [List.drop_of_length_le (by omega)]
    simp; omega
  | succ d ih =>
    intro i hi
    have hlt : i < l.length := by omega
    by_cases h : cellB l[i] = true
    · refine Ev.step (f := fun k => spec_GoodRow.l0 k l (l.length : Int) ((i + 1 : Nat) : Int) l) (fun k => ?_) (Ev.eq (ih (i + 1) (by omega)) ?_)
      · simp only [spec_GoodRow.l0]
        rw [if_pos (by omega), if_pos (by omega), if_pos (by omega), rd_lt hlt, in_spec, Option.bind_some]
        refine (if_pos h).trans ?_
        rw [w64 (by omega) (by omega)]
        rfl
      · rw [drop_cons hlt, List.all_cons, h, Bool.true_and]
    · refine Ev.step (f := fun _ => some false) (fun k => ?_) (Ev.eq (Ev.now _) ?_)
      · simp only [spec_GoodRow.l0]
        rw [if_pos (by omega), if_pos (by omega), if_pos (by omega), rd_lt hlt, in_spec, Option.bind_some]
        exact if_neg h
      · rw [drop_cons hlt, List.all_cons, Bool.eq_false_iff.mpr h]; simp
theorem goodRow_spec (l : List Int) (hl : l.length ≤ 9223372036854775806) : Ev (fun k => spec_GoodRow.f k l) (goodRow l) := by
  unfold spec_GoodRow.f
  simpa [goodRow] using goodRow_l l hl l.length 0 (by omega)
theorem goodRow_impl (l : List Int) : impl_GoodRow.f l = some (goodRow l) := by
  have h1 : impl_areAll_int__impl_isCell.f l = some (l.all cellB) := by
    unfold impl_areAll_int__impl_isCell.f
    exact allO_eq l (fun x _ => by simp only [impl_isCell.f, in_impl, Option.bind_some]; rfl)
  unfold impl_GoodRow.f goodRow
  by_cases h : l.length ≤ 6
  · rw [if_pos (by omega), h1]; simp [h]
  · rw [if_neg (by omega)]; simp [h]

end Go.Proofs.YtmelechhnimlnaeDoor.Pure
