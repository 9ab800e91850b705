/- The rows with which a chase starts: both alike. No conditions. -/
import Derived.Test.YtmelechhnimlnadQParts
import Derived.Test.YtmelechhnimlnadG7
import Derived.Test.YtmelechhnimlnadG11
import Derived.Test.YtmelechhnimlnadG10
namespace Go.Proofs.Ytmelechhnimlnad.Pure
open Go.RowKit Go.Proofs.Ytmelechhnimlnad.G Go.Proofs.Ytmelechhnimlnad.X Go.Proofs.YtmelechhnimlnadW.PrintWords Go.Proofs.YtmelechhnimlnadW.PrintLast
set_option linter.unusedVariables false

theorem contains_l (n : Int) (l : List Int) (hl : l.length ≤ 1048576) (d : Nat) : ∀ (i : Nat), i + d = l.length →
    Ev (fun k => (slices_Index_Lint_int.l0 k l n (l.length : Int) (i : Int)).bind fun t => (some (decide (t ≥ 0)))) (decide (n ∈ l.drop i)) := by
  induction d with
  | zero =>
    intro i hi
    rw [List.drop_of_length_le (by omega)]
    refine Ev.eq (Ev.bind (Ev.step (fun k => by rw [slices_Index_Lint_int.l0]) (Ev.neg (by omega) (Ev.now (-1)))) (Ev.now _)) (by simp)
  | succ d ih =>
    intro i hi
    have hlt : i < l.length := by omega
    rw [drop_cons hlt]
    have hw : wrap64 ((i : Int) + 1) = ((i + 1 : Nat) : Int) := by rw [w64 (by omega) (by omega)]; rfl
    by_cases h : n = l[i]
    · refine Ev.eq (Ev.bind (Ev.step (fun k => by rw [slices_Index_Lint_int.l0]) (Ev.pos (by omega) (Ev.pos (by omega) (Ev.pos (by omega) (Ev.pos (by rw [rd_lt hlt]; exact h) (Ev.now _)))))) (Ev.now _)) ?_
      have hm : n ∈ l[i] :: l.drop (i + 1) := by rw [h]; exact List.mem_cons_self
      rw [decide_eq_true hm]
      exact decide_eq_true (by omega)
    · refine Ev.eq (Ev.step (f := fun k => (slices_Index_Lint_int.l0 k l n (l.length : Int) ((i + 1 : Nat) : Int)).bind fun t => (some (decide (t ≥ 0)))) (fun k => ?_) (ih (i + 1) (by omega))) ?_
      · rw [slices_Index_Lint_int.l0, if_pos (by omega), if_pos (by omega), if_pos (by omega), rd_lt hlt, if_neg h, hw]
      · exact decide_eq_decide.2 (by rw [List.mem_cons]; exact (or_iff_right h).symm)
theorem contains_ev (n : Int) (l : List Int) (hl : l.length ≤ 1048576) : Ev (fun k => slices_Contains_Lint_int.f k l n) (decide (n ∈ l)) := by
  unfold slices_Contains_Lint_int.f slices_Index_Lint_int.f
  simpa using contains_l n l hl l.length 0 (by omega)

def cellT (i : Nat) (p : List Int) (k : Nat) : Int := if (k : Int) ∈ p then 0 else (i : Int) * 6 + (k : Int) + 1
def rowT (i : Nat) (p : List Int) (n : Nat) : List Int := (List.range n).map (cellT i p)
theorem rowT_succ (i : Nat) (p : List Int) (j : Nat) : rowT i p (j + 1) = rowT i p j ++ [cellT i p j] := by simp [rowT, List.range_succ]
theorem rowT_len (i : Nat) (p : List Int) (j : Nat) : (rowT i p j).length = j := by simp [rowT]
def rowsT (n : Nat) : Nat → List (List Int) → List S48
  | _, [] => []
  | i, p :: ps => ⟨rowT i p n⟩ :: rowsT n (i + 1) ps
theorem wrapT (i : Nat) (j : Nat) (hi : i ≤ 8) (hj : j ≤ 6) : wrap64 ((wrap64 ((wrap64 ((i : Int) * 6)) + (j : Int))) + 1) = (i : Int) * 6 + (j : Int) + 1 := by
  rw [w64 (x := (i : Int) * 6) (by omega) (by omega), w64 (x := (i : Int) * 6 + (j : Int)) (by omega) (by omega), w64 (by omega) (by omega)]

theorem impl_row (n : Nat) (hn : n ≤ 6) (ps : List (List Int)) (x14 x15 a : Int) (i : Nat) (hi : i ≤ 8) (p : List Int) (hp : p.length ≤ 1048576) (rows : List S48) (hr : rows.length ≤ 8) (r : Int × List S48)
    (h : Ev (fun k => impl_start.l0 k (n : Int) ps x14 (wrap64 (x15 + 1)) a (rows ++ [⟨rowT i p n⟩])) r) (d : Nat) : ∀ (j : Nat), j + d = n →
    Ev (fun k => impl_start.l1 k (n : Int) (i : Int) p ps x14 x15 (n : Int) (j : Int) a rows (rowT i p j)) r := by
  induction d with
  | zero =>
    intro j hj
    obtain rfl : j = n := by omega
    exact Ev.step (fun k => by rw [impl_start.l1]) (Ev.neg (by omega) (Ev.pos (by omega) h))
  | succ d ih =>
    intro j hj
    have ih := ih (j + 1) (by omega)
    have hl := rowT_len i p j
    rw [rowT_succ] at ih
    have hw : wrap64 ((j : Int) + 1) = ((j + 1 : Nat) : Int) := by rw [w64 (by omega) (by omega)]; rfl
    refine Ev.step (fun k => by rw [impl_start.l1]) (Ev.pos (by omega) (Ev.bind (contains_ev _ p hp) ?_))
    rw [hw, wrapT i j hi (by omega)]
    by_cases hc : (j : Int) ∈ p
    · refine Ev.pos (by simp [hc]) (Ev.pos (by omega) ?_)
      rw [show cellT i p j = 0 from if_pos hc] at ih
      exact ih
    · refine Ev.neg (by simp [hc]) (Ev.pos (by omega) ?_)
      rw [show cellT i p j = _ from if_neg hc] at ih
      exact ih
theorem impl_rows (n : Nat) (hn : n ≤ 6) (ps : List (List Int)) (hL : ps.length ≤ 8) (hl : ∀ p ∈ ps, p.length ≤ 1048576) (a : Int) (d : Nat) : ∀ (i : Nat) (rows : List S48), i + d = ps.length → rows.length = i →
    Ev (fun k => impl_start.l0 k (n : Int) ps (ps.length : Int) (i : Int) a rows) (a, rows ++ rowsT n i (ps.drop i)) := by
  induction d with
  | zero =>
    intro i rows hi hr
    rw [List.drop_of_length_le (by omega)]
    exact Ev.eq (Ev.step (fun k => by rw [impl_start.l0]) (Ev.neg (by omega) (Ev.now _))) (by simp [rowsT])
  | succ d ih =>
    intro i rows hi hr
    have hlt : i < ps.length := by omega
    have ih := ih (i + 1) (rows ++ [⟨rowT i ps[i] n⟩]) (by omega) (by simp [hr])
    have hw : wrap64 ((i : Int) + 1) = ((i + 1 : Nat) : Int) := by rw [w64 (by omega) (by omega)]; rfl
    refine Ev.step (fun k => by rw [impl_start.l0]) (Ev.pos (by omega) (Ev.pos (by omega) (Ev.pos (by omega) ?_)))
    rw [rdP_lt hlt, drop_cons hlt]
    refine impl_row n hn ps _ _ a i (by omega) ps[i] (hl _ (List.getElem_mem hlt)) rows (by omega) _ ?_ n 0 (by omega)
    rw [hw]
    simpa [rowsT] using ih
theorem spec_row (n : Nat) (hn : n ≤ 6) (ps : List (List Int)) (x14 x15 a : Int) (i : Nat) (hi : i ≤ 8) (p : List Int) (hp : p.length ≤ 1048576) (rows : List S48) (hr : rows.length ≤ 8) (r : Int × List S48)
    (h : Ev (fun k => spec_l9Start.l0 k (n : Int) ps x14 (wrap64 (x15 + 1)) a (rows ++ [⟨rowT i p n⟩])) r) (d : Nat) : ∀ (j : Nat), j + d = n →
    Ev (fun k => spec_l9Start.l1 k (n : Int) (i : Int) p (j : Int) ps x14 x15 a rows (rowT i p j)) r := by
  induction d with
  | zero =>
    intro j hj
    obtain rfl : j = n := by omega
    exact Ev.step (fun k => by rw [spec_l9Start.l1]) (Ev.neg (by omega) (Ev.pos (by omega) h))
  | succ d ih =>
    intro j hj
    have ih := ih (j + 1) (by omega)
    have hl := rowT_len i p j
    rw [rowT_succ] at ih
    have hw : wrap64 ((j : Int) + 1) = ((j + 1 : Nat) : Int) := by rw [w64 (by omega) (by omega)]; rfl
    refine Ev.step (fun k => by rw [spec_l9Start.l1]) (Ev.pos (by omega) (Ev.bind (has_spec _ p (by omega)) ?_))
    rw [hw, wrapT i j hi (by omega)]
    by_cases hc : (j : Int) ∈ p
    · refine Ev.pos (by simp [hc]) (Ev.pos (by omega) ?_)
      rw [show cellT i p j = 0 from if_pos hc] at ih
      exact ih
    · refine Ev.neg (by simp [hc]) (Ev.pos (by omega) ?_)
      rw [show cellT i p j = _ from if_neg hc] at ih
      exact ih
theorem spec_rows (n : Nat) (hn : n ≤ 6) (ps : List (List Int)) (hL : ps.length ≤ 8) (hl : ∀ p ∈ ps, p.length ≤ 1048576) (a : Int) (d : Nat) : ∀ (i : Nat) (rows : List S48), i + d = ps.length → rows.length = i →
    Ev (fun k => spec_l9Start.l0 k (n : Int) ps (ps.length : Int) (i : Int) a rows) (a, rows ++ rowsT n i (ps.drop i)) := by
  induction d with
  | zero =>
    intro i rows hi hr
    rw [List.drop_of_length_le (by omega)]
    exact Ev.eq (Ev.step (fun k => by rw [spec_l9Start.l0]) (Ev.neg (by omega) (Ev.now _))) (by simp [rowsT])
  | succ d ih =>
    intro i rows hi hr
    have hlt : i < ps.length := by omega
    have ih := ih (i + 1) (rows ++ [⟨rowT i ps[i] n⟩]) (by omega) (by simp [hr])
    have hw : wrap64 ((i : Int) + 1) = ((i + 1 : Nat) : Int) := by rw [w64 (by omega) (by omega)]; rfl
    refine Ev.step (fun k => by rw [spec_l9Start.l0]) (Ev.pos (by omega) (Ev.pos (by omega) (Ev.pos (by omega) ?_)))
    rw [rdP_lt hlt, drop_cons hlt]
    refine spec_row n hn ps _ _ a i (by omega) ps[i] (hl _ (List.getElem_mem hlt)) rows (by omega) _ ?_ n 0 (by omega)
    rw [hw]
    simpa [rowsT] using ih


end Go.Proofs.Ytmelechhnimlnad.Pure
