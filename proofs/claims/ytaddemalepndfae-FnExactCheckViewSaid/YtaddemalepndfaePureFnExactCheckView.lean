/- The plain law of CheckView: both functions answer alike. No conditions. -/
import Derived.Test.YtaddemalepndfaeHFnExactCheckView
import Derived.Test.YtaddemalepndfaeQView
import Derived.Test.YtaddemalepndfaeG6
import Derived.Test.YtaddemalepndfaeG12
namespace Go.Proofs.Ytaddemalepndfae.Pure
open Go.RowKit Go.Proofs.Ytaddemalepndfae.G Go.Proofs.Ytaddemalepndfae.X Go.Proofs.YtaddemalepndfaeW.PrintWords Go.Proofs.YtaddemalepndfaeW.PrintLast Go.Proofs.Ytaddemalepndfae.HFnExactCheckView
set_option linter.unusedVariables false

theorem chk_len (src : List Int) : ∀ (ps : List S47) (out o : List Int), chk src ps out = some o → o.length = out.length + ps.length
  | [], out, o, h => by
    obtain rfl := Option.some.inj (h : some out = some o)
    rfl
  | p :: ps, out, o, h => by
    obtain ⟨n, _, h⟩ := Option.bind_eq_some_iff.mp (h : (stepV src out p).bind _ = some o)
    have := chk_len src ps (out ++ [n]) o h
    rw [List.length_append] at this
    show o.length = out.length + (ps.length + 1)
    rw [this]
    show out.length + 1 + ps.length = _
    omega
theorem core : Core := fun x0 h0 => by
  have k0 : x0.f0.length + (x0.f1.length + (x0.f1.map fun y => y.f3.length + y.f4.length + (y.f5.length + (y.f5.map fun z => z.length).sum)).sum) ≤ 1048576 := h0
  have hz : ∀ p ∈ x0.f1, sizedP p := fun p hp => by
    have := sum_mem (fun y : S47 => y.f3.length + y.f4.length + (y.f5.length + (y.f5.map fun z => z.length).sum)) x0.f1 p hp
    exact ⟨by omega, by omega, by omega⟩
  refine ⟨res (chkV x0.f0 x0.f1), ?_, view_i x0.f0 x0.f1 (by omega), ?_⟩
  · unfold spec_CheckView.f
    exact Ev.bind (view_s x0.f0 x0.f1 hz (by omega)) (Ev.now _)
  · unfold chkV
    split
    · cases hc : chk x0.f0 x0.f1 [] with
      | none => show ([] : List Int).length ≤ _; exact Nat.zero_le _
      | some o =>
        have := chk_len _ _ _ _ hc
        show o.length ≤ _
        rw [this]
        show 0 + x0.f1.length ≤ _
        omega
    · show ([] : List Int).length ≤ _; exact Nat.zero_le _
theorem FnExactCheckView : laws_FnExactCheckView.Pure := law core

end Go.Proofs.Ytaddemalepndfae.Pure
