/- Written by a program of this claim's own, out of the translation: functions of the program as plain functions, and that the calls answer as these. No conditions. -/
import Derived.Test.YtaddemalepndfaeG0
import Derived.Test.YtaddemalepndfaeX
namespace Go.Proofs.Ytaddemalepndfae.G
open Go.RowKit Go.Proofs.YtaddemalepndfaeW.PrintWords Go.Proofs.Ytaddemalepndfae.X
set_option linter.unusedVariables false
theorem opens3 : Opens Try.prog 3 (Kd.int .i64) (fun x => (-9223372036854775808 ≤ x ∧ x ≤ 9223372036854775807)) := opens_int Try.underlying3
theorem opens22 : Opens Try.prog 22 (Kd.slice 3 (Kd.int .i64)) (fun x => (x.length ≤ 9223372036854775807 ∧ ∀ x0_ ∈ x, (-9223372036854775808 ≤ x0_ ∧ x0_ ≤ 9223372036854775807))) := opens_slice Try.underlying22 (by kernel_rfl) opens3
theorem opens80 : Opens Try.prog 80 k80 wf80 := opens_struct (t := 80) Try.underlying80 (by kernel_rfl) (fun x : S80 => (x.f0, x.f1, x.f2)) (fun a => (⟨a.1, a.2.1, a.2.2⟩ : S80)) (fun _ => rfl) (opens_cons 0 rfl (by kernel_rfl) opens3 (opens_cons 1 rfl (by kernel_rfl) opens3 (opens_last 2 rfl (by kernel_rfl) opens3)))
theorem opens54 : Opens Try.prog 54 (Kd.slice 80 k80) (fun x => (x.length ≤ 9223372036854775807 ∧ ∀ x0_ ∈ x, wf80 x0_)) := opens_slice Try.underlying54 (by kernel_rfl) opens80
theorem opens45 : Opens Try.prog 45 (Kd.slice 22 (Kd.slice 3 (Kd.int .i64))) (fun x => (x.length ≤ 9223372036854775807 ∧ ∀ x0_ ∈ x, (x0_.length ≤ 9223372036854775807 ∧ ∀ x1_ ∈ x0_, (-9223372036854775808 ≤ x1_ ∧ x1_ ≤ 9223372036854775807)))) := opens_slice Try.underlying45 (by kernel_rfl) opens22
theorem opens56 : Opens Try.prog 56 k56 wf56 := opens_struct (t := 56) Try.underlying56 (by kernel_rfl) (fun x : S56 => (x.f0, x.f1, x.f2, x.f3, x.f4, x.f5)) (fun a => (⟨a.1, a.2.1, a.2.2.1, a.2.2.2.1, a.2.2.2.2.1, a.2.2.2.2.2⟩ : S56)) (fun _ => rfl) (opens_cons 0 rfl (by kernel_rfl) opens3 (opens_cons 1 rfl (by kernel_rfl) opens3 (opens_cons 2 rfl (by kernel_rfl) opens3 (opens_cons 3 rfl (by kernel_rfl) opens54 (opens_cons 4 rfl (by kernel_rfl) opens22 (opens_last 5 rfl (by kernel_rfl) opens45))))))
theorem opens23 : Opens Try.prog 23 (Kd.slice 56 k56) (fun x => (x.length ≤ 9223372036854775807 ∧ ∀ x0_ ∈ x, wf56 x0_)) := opens_slice Try.underlying23 (by kernel_rfl) opens56
theorem opens25 : Opens Try.prog 25 k25 wf25 := opens_struct (t := 25) Try.underlying25 (by kernel_rfl) (fun x : S25 => (x.f0, x.f1)) (fun a => (⟨a.1, a.2⟩ : S25)) (fun _ => rfl) (opens_cons 0 rfl (by kernel_rfl) opens22 (opens_last 1 rfl (by kernel_rfl) opens23))
end Go.Proofs.Ytaddemalepndfae.G
