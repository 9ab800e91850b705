/- Written by a program of this claim's own, out of the translation: functions of the program as plain functions, and that the calls answer as these. No conditions. -/
import Derived.Test.YtaddemalepndfahG0
import Derived.Test.YtaddemalepndfahX
namespace Go.Proofs.Ytaddemalepndfah.G
open Go.RowKit Go.Proofs.YtaddemalepndfahW.PrintWords Go.Proofs.Ytaddemalepndfah.X
set_option linter.unusedVariables false
theorem opens3 : Opens Try.prog 3 (Kd.int .i64) (fun x => (-9223372036854775808 ≤ x ∧ x ≤ 9223372036854775807)) := opens_int Try.underlying3
theorem opens23 : Opens Try.prog 23 (Kd.slice 3 (Kd.int .i64)) (fun x => (x.length ≤ 9223372036854775807 ∧ ∀ x0_ ∈ x, (-9223372036854775808 ≤ x0_ ∧ x0_ ≤ 9223372036854775807))) := opens_slice Try.underlying23 (by kernel_rfl) opens3
theorem opens25 : Opens Try.prog 25 k25 wf25 := opens_struct (t := 25) Try.underlying25 (by kernel_rfl) (fun x : S25 => (x.f0, x.f1)) (fun a => (⟨a.1, a.2⟩ : S25)) (fun _ => rfl) (opens_cons 0 rfl (by kernel_rfl) opens23 (opens_last 1 rfl (by kernel_rfl) opens23))
theorem opens22 : Opens Try.prog 22 (Kd.slice 25 k25) (fun x => (x.length ≤ 9223372036854775807 ∧ ∀ x0_ ∈ x, wf25 x0_)) := opens_slice Try.underlying22 (by kernel_rfl) opens25
end Go.Proofs.Ytaddemalepndfah.G
