/- The plain law of IsLinear: both functions answer alike. No conditions. -/
import Derived.Test.YtaddemalepndfabHFnExactIsLinear
import Derived.Test.YtaddemalepndfabQView
import Derived.Test.YtaddemalepndfabG6
import Derived.Test.YtaddemalepndfabG13
namespace Go.Proofs.Ytaddemalepndfab.Pure
open Go.RowKit Go.Proofs.Ytaddemalepndfab.G Go.Proofs.Ytaddemalepndfab.X Go.Proofs.YtaddemalepndfabW.PrintWords Go.Proofs.YtaddemalepndfabW.PrintLast Go.Proofs.Ytaddemalepndfab.HFnExactIsLinear
set_option linter.unusedVariables false
set_option linter.unusedSimpArgs false

def lin (p : S42) : Bool := p.f0 != 4 && p.f0 != 7
theorem lin_s (ps : List S42) (hp : ps.length ≤ 1048576) (d : Nat) : ∀ (i : Nat), i + d = ps.length →
    Ev (fun k => spec_IsLinear.l0 k ps (ps.length : Int) (i : Int)) ((ps.drop i).all lin, true) := by
  induction d with
  | zero =>
    intro i hi
    rw [List.drop_of_length_le (by omega)]
    show Ev _ (true, true)
    exact Ev.step (fun k => by rw [spec_IsLinear.l0]) (Ev.neg (by omega) (Ev.now _))
  | succ d ih =>
    intro i hi
    have hlt : i < ps.length := by omega
    rw [drop_cons hlt, List.all_cons]
    refine Ev.step (fun k => by rw [spec_IsLinear.l0]) (Ev.pos (by omega) (Ev.pos (by omega) (Ev.pos (by omega) ?_)))
    rw [rdp_lt hlt, w64 (x := (i : Int) + 1) (by omega) (by omega)]
    by_cases h4 : ps[i].f0 = 4
    · rw [show lin ps[i] = false from by unfold lin; simp [h4]]; exact Ev.pos h4 (Ev.now _)
    refine Ev.neg h4 ?_
    by_cases h7 : ps[i].f0 = 7
    · rw [show lin ps[i] = false from by unfold lin; simp [h7]]; exact Ev.pos h7 (Ev.now _)
    · rw [show lin ps[i] = true from by unfold lin; simp [h4, h7], Bool.true_and]; exact Ev.neg h7 (ih (i + 1) (by omega))
theorem lin_i (ps : List S42) : impl_areAll_impl_Part__impl_IsLinear_1.f ps = some (ps.all lin) :=
  allO_eq ps (fun p _ => by
    unfold impl_IsLinear_1.f lin
    by_cases h4 : p.f0 = 4
    · rw [if_pos h4]; simp [h4]
    · rw [if_neg h4]; simp [h4])
theorem core : Core := fun x0 h0 => by
  have k0 : x0.f0.length + (x0.f1.length + (x0.f1.map fun y => y.f3.length + y.f4.length + (y.f5.length + (y.f5.map fun z => z.length).sum)).sum) ≤ 1048576 := h0
  have hz : ∀ p ∈ x0.f1, sizedP p := fun p hp => by
    have := sum_mem (fun y : S42 => y.f3.length + y.f4.length + (y.f5.length + (y.f5.map fun z => z.length).sum)) x0.f1 p hp
    exact ⟨by omega, by omega, by omega⟩
  have hs := view_s x0.f0 x0.f1 hz (by omega)
  have hi := view_i x0.f0 x0.f1 (by omega)
  cases hc : chkV x0.f0 x0.f1 with
  | none =>
    rw [hc] at hs hi
    exact ⟨(false, false), Ev.bind hs (Ev.neg (by decide) (Ev.now _)), Ev.bind hi (Ev.neg (by decide) (Ev.now _))⟩
  | some o =>
    rw [hc] at hs hi
    refine ⟨(x0.f1.all lin, true), Ev.bind hs (Ev.pos rfl ?_), Ev.bind hi (Ev.pos rfl (Ev.cbind (lin_i x0.f1) (Ev.now _)))⟩
    simpa using lin_s x0.f1 (by omega) x0.f1.length 0 (by omega)
theorem FnExactIsLinear : laws_FnExactIsLinear.Pure := law core

end Go.Proofs.Ytaddemalepndfab.Pure
