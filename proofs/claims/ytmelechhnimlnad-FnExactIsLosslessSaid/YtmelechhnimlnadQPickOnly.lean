/- Cells that are picked: both alike. No conditions. -/
import Derived.Test.YtmelechhnimlnadG4
import Derived.Test.YtmelechhnimlnadG12
import Derived.Test.YtmelechhnimlnadQBase
namespace Go.Proofs.Ytmelechhnimlnad.Pure
open Go.RowKit Go.Proofs.Ytmelechhnimlnad.G Go.Proofs.Ytmelechhnimlnad.X Go.Proofs.YtmelechhnimlnadW.PrintWords Go.Proofs.YtmelechhnimlnadW.PrintLast
set_option linter.unusedVariables false

/-- Picked cells. -/
theorem pick_spec_l (r l : List Int) (hl : l.length ≤ 1048576) (hp : ∀ x ∈ l, 0 ≤ x ∧ x < (r.length : Int)) (d : Nat) : ∀ (i : Nat) (o : List Int), i + d = l.length → o.length ≤ i →
    Ev (fun k => spec_l1Pick.l0 k l (l.length : Int) (i : Int) r o) (o ++ (l.drop i).map (rd r)) := by
  induction d with
  | zero =>
    intro i o hi ho
    rw [List.drop_of_length_le (by omega)]
    exact Ev.step (fun k => by rw [spec_l1Pick.l0]) (Ev.neg (by omega) (Ev.eq (Ev.now _) (by simp)))
  | succ d ih =>
    intro i o hi ho
    have hlt : i < l.length := by omega
    obtain ⟨p1, p2⟩ := hp l[i] (List.getElem_mem hlt)
    rw [drop_cons hlt, List.map_cons]
    refine Ev.step (fun k => by rw [spec_l1Pick.l0]) (Ev.pos (by omega) (Ev.pos (by omega) (Ev.pos (by omega) ?_)))
    rw [rd_lt hlt, w64 (x := (i : Int) + 1) (by omega) (by omega)]
    exact Ev.pos p1 (Ev.pos p2 (Ev.pos (by omega) (Ev.eq (ih (i + 1) _ (by omega) (by simp; omega)) (by simp))))
theorem pick_spec (r l : List Int) (hl : l.length ≤ 1048576) (hp : ∀ x ∈ l, 0 ≤ x ∧ x < (r.length : Int)) : Ev (fun k => spec_l1Pick.f k r l) (l.map (rd r)) := by
  unfold spec_l1Pick.f
  simpa using pick_spec_l r l hl hp l.length 0 [] (by omega) (by simp)
theorem pick_impl_l (r l : List Int) (hl : l.length ≤ 1048576) (hp : ∀ x ∈ l, 0 ≤ x ∧ x < (r.length : Int)) (d : Nat) : ∀ (i : Nat) (o : List Int), i + d = l.length → o.length ≤ i →
    Ev (fun k => impl_Row_picked.l0 k l (l.length : Int) (i : Int) r o) (o ++ (l.drop i).map (rd r)) := by
  induction d with
  | zero =>
    intro i o hi ho
    rw [List.drop_of_length_le (by omega)]
    exact Ev.step (fun k => by rw [impl_Row_picked.l0]) (Ev.neg (by omega) (Ev.eq (Ev.now _) (by simp)))
  | succ d ih =>
    intro i o hi ho
    have hlt : i < l.length := by omega
    obtain ⟨p1, p2⟩ := hp l[i] (List.getElem_mem hlt)
    rw [drop_cons hlt, List.map_cons]
    refine Ev.step (fun k => by rw [impl_Row_picked.l0]) (Ev.pos (by omega) (Ev.pos (by omega) (Ev.pos (by omega) ?_)))
    rw [rd_lt hlt, w64 (x := (i : Int) + 1) (by omega) (by omega)]
    exact Ev.pos p1 (Ev.pos p2 (Ev.pos (by omega) (Ev.eq (ih (i + 1) _ (by omega) (by simp; omega)) (by simp))))
theorem pick_impl (r l : List Int) (hl : l.length ≤ 1048576) (hp : ∀ x ∈ l, 0 ≤ x ∧ x < (r.length : Int)) : Ev (fun k => impl_Row_picked.f k r l) (l.map (rd r)) := by
  unfold impl_Row_picked.f
  simpa using pick_impl_l r l hl hp l.length 0 [] (by omega) (by simp)

end Go.Proofs.Ytmelechhnimlnad.Pure
