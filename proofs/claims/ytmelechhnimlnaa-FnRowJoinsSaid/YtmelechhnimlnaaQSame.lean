/- Whether two rows are the same. No conditions. -/
import Derived.Test.YtmelechhnimlnaaG9
import Derived.Test.YtmelechhnimlnaaQBase
namespace Go.Proofs.Ytmelechhnimlnaa.Pure
open Go.RowKit Go.Proofs.Ytmelechhnimlnaa.G Go.Proofs.Ytmelechhnimlnaa.X Go.Proofs.YtmelechhnimlnaaW.PrintWords Go.Proofs.YtmelechhnimlnaaW.PrintLast
set_option linter.unusedVariables false
set_option linter.unusedSimpArgs false

theorem same_l (a b : List Int) (hl : a.length = b.length) (hb : a.length ≤ 1048576) (d : Nat) : ∀ i : Nat, i + d = a.length →
    Ev (fun k => laws_sameInts.l0 k a b (a.length : Int) (i : Int)) (decide (a.drop i = b.drop i)) := by
  induction d with
  | zero =>
    intro i hi
    refine Ev.step (fun k => by rw [laws_sameInts.l0]) ?_
    refine Ev.neg (by omega) (Ev.eq (Ev.now _) ?_)
    rw [List.drop_eq_nil_of_le (by omega), List.drop_eq_nil_of_le (by omega)]
    rfl
  | succ d ih =>
    intro i hi
    have h1 : i < a.length := by omega
    have h2 : i < b.length := by omega
    refine Ev.step (fun k => by rw [laws_sameInts.l0]) ?_
    refine Ev.pos (by omega) ?_
    refine Ev.pos (by omega) ?_
    refine Ev.pos (by omega) ?_
    refine Ev.pos (by omega) ?_
    rw [rd_lt h1, rd_lt h2, w64 (x := (i : Int) + 1) (by omega) (by omega), drop_cons h1, drop_cons h2]
    by_cases c : a[i] = b[i]
    · exact Ev.pos c (Ev.eq (ih (i + 1) (by omega)) (decide_eq_decide.mpr ⟨fun h => by rw [c, h], fun h => (List.cons.inj h).2⟩))
    · exact Ev.neg c (Ev.eq (Ev.now _) (decide_eq_false (fun h => c (List.cons.inj h).1)).symm)
theorem same_ev (a b : List Int) (ha : a.length ≤ 1048576) : Ev (fun k => laws_sameRow.f k a b) (decide (a = b)) := by
  unfold laws_sameRow.f laws_sameInts.f
  by_cases c : a.length = b.length
  · refine Ev.bind (Ev.pos (by omega) ?_) (Ev.now _)
    have h := same_l a b c ha a.length 0 (by omega)
    rwa [List.drop_zero, List.drop_zero] at h
  · refine Ev.bind (Ev.neg (by omega) (Ev.now _)) (Ev.eq (Ev.now _) ?_)
    have : ¬ a = b := fun h => c (by rw [h])
    simp [this]

end Go.Proofs.Ytmelechhnimlnaa.Pure
