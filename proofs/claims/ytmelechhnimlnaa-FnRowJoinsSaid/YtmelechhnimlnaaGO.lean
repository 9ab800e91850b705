/- Written by a program of this claim's own, out of the translation: functions of the program as plain functions, and that the calls answer as these. No conditions. -/
import Derived.Test.YtmelechhnimlnaaG0
import Derived.Test.YtmelechhnimlnaaX
namespace Go.Proofs.Ytmelechhnimlnaa.G
open Go.RowKit Go.Proofs.YtmelechhnimlnaaW.PrintWords Go.Proofs.Ytmelechhnimlnaa.X
set_option linter.unusedVariables false
theorem opens_u8 {P : Program} {t : TypeId} (ht : P.underlying t = some (.int .u8)) : Opens P t (Kd.int .u8) (fun n => 0 ≤ n ∧ n ≤ 255) := by
  intro H enc w base spare held fuel cs x h
  obtain ⟨n, rfl, _, hw⟩ := DataW.trod_int ht h
  exact ⟨n, rfl, (Lit.wf_int_iff .u8 n).1 hw⟩
theorem opens5 : Opens Try.prog 5 (Kd.int .u8) (fun x => (0 ≤ x ∧ x ≤ 255)) := opens_u8 Try.underlying5
theorem opens22 : Opens Try.prog 22 (Kd.slice 5 (Kd.int .u8)) (fun x => (x.length ≤ 9223372036854775807 ∧ ∀ x0_ ∈ x, (0 ≤ x0_ ∧ x0_ ≤ 255))) := opens_slice Try.underlying22 (by kernel_rfl) opens5
end Go.Proofs.Ytmelechhnimlnaa.G
