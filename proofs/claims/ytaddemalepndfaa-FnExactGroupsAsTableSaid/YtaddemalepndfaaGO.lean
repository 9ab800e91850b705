/- Written by a program of this claim's own, out of the translation: functions of the program as plain functions, and that the calls answer as these. No conditions. -/
import Derived.Test.YtaddemalepndfaaG0
import Derived.Test.YtaddemalepndfaaX
namespace Go.Proofs.Ytaddemalepndfaa.G
open Go.RowKit Go.Proofs.YtaddemalepndfaaW.PrintWords Go.Proofs.Ytaddemalepndfaa.X
set_option linter.unusedVariables false
theorem opens3 : Opens Try.prog 3 (Kd.int .i64) (fun x => (-9223372036854775808 ≤ x ∧ x ≤ 9223372036854775807)) := opens_int Try.underlying3
theorem opens37 : Opens Try.prog 37 (Kd.slice 3 (Kd.int .i64)) (fun x => (x.length ≤ 9223372036854775807 ∧ ∀ x0_ ∈ x, (-9223372036854775808 ≤ x0_ ∧ x0_ ≤ 9223372036854775807))) := opens_slice Try.underlying37 (by kernel_rfl) opens3
theorem opens39 : Opens Try.prog 39 k39 wf39 := opens_struct (t := 39) Try.underlying39 (by kernel_rfl) (fun x : S39 => x.f0) (fun a => (⟨a⟩ : S39)) (fun _ => rfl) (opens_last 0 rfl (by kernel_rfl) opens37)
theorem opens41 : Opens Try.prog 41 k41 wf41 := opens_struct (t := 41) Try.underlying41 (by kernel_rfl) (fun x : S41 => (x.f0, x.f1, x.f2)) (fun a => (⟨a.1, a.2.1, a.2.2⟩ : S41)) (fun _ => rfl) (opens_cons 0 rfl (by kernel_rfl) opens39 (opens_cons 1 rfl (by kernel_rfl) opens3 (opens_last 2 rfl (by kernel_rfl) opens3)))
theorem opens22 : Opens Try.prog 22 (Kd.slice 41 k41) (fun x => (x.length ≤ 9223372036854775807 ∧ ∀ x0_ ∈ x, wf41 x0_)) := opens_slice Try.underlying22 (by kernel_rfl) opens41
end Go.Proofs.Ytaddemalepndfaa.G
