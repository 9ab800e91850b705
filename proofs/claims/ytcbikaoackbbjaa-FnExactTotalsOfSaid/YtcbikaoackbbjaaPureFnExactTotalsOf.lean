/- The plain law of TotalsOf: both functions answer alike. No conditions. -/
import Derived.Test.YtcbikaoackbbjaaHFnExactTotalsOf
import Derived.Test.YtcbikaoackbbjaaQGroups
import Derived.Test.YtcbikaoackbbjaaG44
namespace Go.Proofs.Ytcbikaoackbbjaa.Pure
open Go.RowKit Go.Proofs.Ytcbikaoackbbjaa.G Go.Proofs.Ytcbikaoackbbjaa.X Go.Proofs.YtcbikaoackbbjaaW.PrintWords Go.Proofs.Ytcbikaoackbbjaa.HFnExactTotalsOf
set_option linter.unusedVariables false

/-- The sums from a place on, as the machine sums. -/
def totG (l : List S119) : Nat → Nat → Int → Int → Int × Int
  | 0, _, s, t => (s, t)
  | d + 1, i, s, t => totG l d (i + 1) (wrap64 (s + (rdG l (i : Int)).f1)) (wrap64 (t + (rdG l (i : Int)).f2))
def endG (p : Int × Int) : Int × Int × Bool := if sumOk p.1 = true then (if sumOk p.2 = true then (p.1, p.2, true) else (0, 0, false)) else (0, 0, false)
theorem totG_spec (l : List S119) (hl : l.length ≤ 1048576) (d : Nat) : ∀ (i : Nat) (s t : Int), i + d = l.length → Ev (fun k => spec_TotalsOf.l0 k s t l (l.length : Int) (i : Int)) (endG (totG l d i s t)) := by
  induction d with
  | zero =>
    intro i s t hi
    refine Ev.step (fun k => by rw [spec_TotalsOf.l0]) (Ev.neg (by omega) (Ev.cbind (sum_spec s) ?_))
    show Ev _ (if sumOk s = true then (if sumOk t = true then (s, t, true) else (0, 0, false)) else (0, 0, false))
    exact Ev.ite (fun _ => Ev.cbind (sum_spec t) (Ev.ite (fun _ => Ev.now _) (fun _ => Ev.now _))) (fun _ => Ev.now _)
  | succ d ih =>
    intro i s t hi
    refine Ev.step (fun k => by rw [spec_TotalsOf.l0]) (Ev.pos (by omega) (Ev.pos (by omega) (Ev.pos (by omega) ?_)))
    rw [w64 (x := (i : Int) + 1) (by omega) (by omega)]
    exact ih (i + 1) _ _ (by omega)
theorem totG_impl (l : List S119) (hl : l.length ≤ 1048576) (d : Nat) : ∀ (i : Nat) (s t : Int), i + d = l.length → Ev (fun k => impl_TotalsOf.l0 k s t l (l.length : Int) (i : Int)) (endG (totG l d i s t)) := by
  induction d with
  | zero =>
    intro i s t hi
    refine Ev.step (fun k => by rw [impl_TotalsOf.l0]) (Ev.neg (by omega) (Ev.cbind (sum_impl s) ?_))
    show Ev _ (if sumOk s = true then (if sumOk t = true then (s, t, true) else (0, 0, false)) else (0, 0, false))
    exact Ev.ite (fun _ => Ev.cbind (sum_impl t) (Ev.ite (fun _ => Ev.now _) (fun _ => Ev.now _))) (fun _ => Ev.now _)
  | succ d ih =>
    intro i s t hi
    refine Ev.step (fun k => by rw [impl_TotalsOf.l0]) (Ev.pos (by omega) (Ev.pos (by omega) (Ev.pos (by omega) ?_)))
    rw [w64 (x := (i : Int) + 1) (by omega) (by omega)]
    exact ih (i + 1) _ _ (by omega)

theorem FnExactTotalsOf : laws_FnExactTotalsOf.Pure := law fun x0 h0 => by
  have k0 : x0.length + (x0.map fun y => y.f0.f0.length).sum ≤ 1048576 := h0
  have hr := rd_keys x0 1048576 (fun y hy => by have := sum_mem (fun y : S119 => y.f0.f0.length) x0 y hy; omega)
  refine ⟨if goodGroups x0 = true then endG (totG x0 x0.length 0 0 0) else (0, 0, false), ?_, ?_⟩
  · unfold spec_TotalsOf.f
    exact Ev.bind (groups_spec _ (by omega) hr) (Ev.ite (fun _ => totG_spec _ (by omega) _ 0 _ _ (by omega)) (fun _ => Ev.now _))
  · unfold impl_TotalsOf.f
    exact Ev.bind (groups_impl _ (by omega) hr) (Ev.ite (fun _ => totG_impl _ (by omega) _ 0 _ _ (by omega)) (fun _ => Ev.now _))

end Go.Proofs.Ytcbikaoackbbjaa.Pure
