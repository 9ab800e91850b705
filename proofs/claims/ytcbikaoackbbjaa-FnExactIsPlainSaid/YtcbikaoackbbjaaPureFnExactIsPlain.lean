/- The plain law of IsPlain: both functions answer alike. No conditions. -/
import Derived.Test.YtcbikaoackbbjaaHFnExactIsPlain
import Derived.Test.YtcbikaoackbbjaaQTable
import Derived.Test.YtcbikaoackbbjaaG43
namespace Go.Proofs.Ytcbikaoackbbjaa.Pure
open Go.RowKit Go.Proofs.Ytcbikaoackbbjaa.G Go.Proofs.Ytcbikaoackbbjaa.X Go.Proofs.YtcbikaoackbbjaaW.PrintWords Go.Proofs.Ytcbikaoackbbjaa.HFnExactIsPlain
set_option linter.unusedVariables false

theorem plain_spec (l : List S126) (hl : l.length ≤ 1048576) (d : Nat) : ∀ (i : Nat), i + d = l.length → Ev (fun k => spec_l2Plain.l0 k l (l.length : Int) (i : Int)) ((List.range' i d).all (fun j : Nat => !decide ((rd_T126 l (j : Int)).f1 < 0))) := by
  induction d with
  | zero =>
    intro i hi
    exact Ev.step (fun k => by rw [spec_l2Plain.l0]) (Ev.neg (by omega) (Ev.eq (Ev.now true) rfl))
  | succ d ih =>
    intro i hi
    rw [range'_s, List.all_cons]
    refine Ev.step (fun k => by rw [spec_l2Plain.l0]) (Ev.pos (by omega) (Ev.pos (by omega) (Ev.pos (by omega) ?_)))
    rw [w64 (x := (i : Int) + 1) (by omega) (by omega)]
    by_cases h : (rd_T126 l (i : Int)).f1 < 0
    · exact Ev.pos h (Ev.eq (Ev.now _) (by simp [h]))
    · exact Ev.neg h (Ev.eq (ih (i + 1) (by omega)) (by simp [h]))

theorem FnExactIsPlain : laws_FnExactIsPlain.Pure := law fun x0 h0 => by
  have k0 : x0.f1.length + (x0.f1.map fun y => y.f0.f0.length).sum ≤ 1048576 := h0
  have hr := rd_rows x0.f1 1048576 (fun y hy => by have := sum_mem (fun y : S126 => y.f0.f0.length) x0.f1 y hy; omega)
  refine ⟨if goodTable x0.f0 x0.f1 = true then (x0.f1.all (fun y => decide (y.f1 > 0)), true) else (false, false), ?_, ?_⟩
  · unfold spec_IsPlain.f spec_l2Plain.f
    refine Ev.bind (table_spec _ _ (by omega) hr) (Ev.ite (fun hg => Ev.bind (plain_spec x0.f1 (by omega) x0.f1.length 0 (by omega)) (Ev.eq (Ev.now _) ?_)) (fun _ => Ev.now _))
    have := all_places (fun y => decide (y.f1 > 0)) x0.f1 x0.f1.length 0 (by omega)
    rw [List.drop_zero] at this
    rw [this]
    congr 1
    unfold goodTable at hg
    simp only [Bool.and_eq_true, List.all_eq_true] at hg
    have hn := hg.2.2
    rw [Bool.eq_iff_iff, List.all_eq_true, List.all_eq_true]
    refine forall_congr' fun j => forall_congr' fun hj => ?_
    have hz := hn j hj
    simp only [okAt, Bool.and_eq_true, Bool.not_eq_true', decide_eq_false_iff_not] at hz
    have := hz.2.2.2.1
    simp
    omega
  · unfold impl_IsPlain.f impl_areAll_impl_Weighted__impl_IsPlain_1.f
    refine Ev.bind (table_impl _ _ (by omega) hr) (Ev.ite (fun hg => Ev.cbind (allO_eq _ (p := fun y : S126 => decide (y.f1 > 0)) (fun x _ => by rfl)) (Ev.now _)) (fun _ => Ev.now _))

end Go.Proofs.Ytcbikaoackbbjaa.Pure
