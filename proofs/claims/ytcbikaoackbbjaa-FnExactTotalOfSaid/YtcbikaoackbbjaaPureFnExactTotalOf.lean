/- The plain law of TotalOf: both functions answer alike. No conditions. -/
import Derived.Test.YtcbikaoackbbjaaHFnExactTotalOf
import Derived.Test.YtcbikaoackbbjaaQTable
import Derived.Test.YtcbikaoackbbjaaG42
namespace Go.Proofs.Ytcbikaoackbbjaa.Pure
open Go.RowKit Go.Proofs.Ytcbikaoackbbjaa.G Go.Proofs.Ytcbikaoackbbjaa.X Go.Proofs.YtcbikaoackbbjaaW.PrintWords Go.Proofs.Ytcbikaoackbbjaa.HFnExactTotalOf
set_option linter.unusedVariables false

/-- The sum of weights from a place on, as the machine sums. -/
def totFrom (l : List S126) : Nat → Nat → Int → Int
  | 0, _, s => s
  | d + 1, i, s => totFrom l d (i + 1) (wrap64 (s + (rd_T126 l (i : Int)).f1))
theorem tot_spec (l : List S126) (hl : l.length ≤ 1048576) (d : Nat) : ∀ (i : Nat) (s : Int), i + d = l.length → Ev (fun k => spec_TotalOf.l0 k s l (l.length : Int) (i : Int)) (totFrom l d i s, true) := by
  induction d with
  | zero =>
    intro i s hi
    exact Ev.step (fun k => by rw [spec_TotalOf.l0]) (Ev.neg (by omega) (Ev.eq (Ev.now (s, true)) rfl))
  | succ d ih =>
    intro i s hi
    refine Ev.step (fun k => by rw [spec_TotalOf.l0]) (Ev.pos (by omega) (Ev.pos (by omega) (Ev.pos (by omega) ?_)))
    rw [w64 (x := (i : Int) + 1) (by omega) (by omega)]
    exact ih (i + 1) _ (by omega)
theorem tot_impl (l : List S126) (hl : l.length ≤ 1048576) (d : Nat) : ∀ (i : Nat) (s : Int), i + d = l.length → Ev (fun k => impl_TotalOf.l0 k s l (l.length : Int) (i : Int)) (totFrom l d i s, true) := by
  induction d with
  | zero =>
    intro i s hi
    exact Ev.step (fun k => by rw [impl_TotalOf.l0]) (Ev.neg (by omega) (Ev.eq (Ev.now (s, true)) rfl))
  | succ d ih =>
    intro i s hi
    refine Ev.step (fun k => by rw [impl_TotalOf.l0]) (Ev.pos (by omega) (Ev.pos (by omega) (Ev.pos (by omega) ?_)))
    rw [w64 (x := (i : Int) + 1) (by omega) (by omega)]
    exact ih (i + 1) _ (by omega)

theorem FnExactTotalOf : laws_FnExactTotalOf.Pure := law fun x0 h0 => by
  have k0 : x0.f1.length + (x0.f1.map fun y => y.f0.f0.length).sum ≤ 1048576 := h0
  have hr := rd_rows x0.f1 1048576 (fun y hy => by have := sum_mem (fun y : S126 => y.f0.f0.length) x0.f1 y hy; omega)
  refine ⟨if goodTable x0.f0 x0.f1 = true then (totFrom x0.f1 x0.f1.length 0 0, true) else (0, false), ?_, ?_⟩
  · unfold spec_TotalOf.f
    exact Ev.bind (table_spec _ _ (by omega) hr) (Ev.ite (fun _ => tot_spec _ (by omega) _ 0 _ (by omega)) (fun _ => Ev.now _))
  · unfold impl_TotalOf.f
    exact Ev.bind (table_impl _ _ (by omega) hr) (Ev.ite (fun _ => tot_impl _ (by omega) _ 0 _ (by omega)) (fun _ => Ev.now _))

end Go.Proofs.Ytcbikaoackbbjaa.Pure
