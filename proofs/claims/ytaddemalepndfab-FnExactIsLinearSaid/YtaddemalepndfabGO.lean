/- Written by a program of this claim's own, out of the translation: functions of the program as plain functions, and that the calls answer as these. No conditions. -/
import Derived.Test.YtaddemalepndfabG0
import Derived.Test.YtaddemalepndfabX
namespace Go.Proofs.Ytaddemalepndfab.G
open Go.RowKit Go.Proofs.YtaddemalepndfabW.PrintWords Go.Proofs.Ytaddemalepndfab.X
set_option linter.unusedVariables false
theorem opens3 : Opens Try.prog 3 (Kd.int .i64) (fun x => (-9223372036854775808 ≤ x ∧ x ≤ 9223372036854775807)) := opens_int Try.underlying3
theorem opens22 : Opens Try.prog 22 (Kd.slice 3 (Kd.int .i64)) (fun x => (x.length ≤ 9223372036854775807 ∧ ∀ x0_ ∈ x, (-9223372036854775808 ≤ x0_ ∧ x0_ ≤ 9223372036854775807))) := opens_slice Try.underlying22 (by kernel_rfl) opens3
theorem opens75 : Opens Try.prog 75 k75 wf75 := opens_struct (t := 75) Try.underlying75 (by kernel_rfl) (fun x : S75 => (x.f0, x.f1, x.f2)) (fun a => (⟨a.1, a.2.1, a.2.2⟩ : S75)) (fun _ => rfl) (opens_cons 0 rfl (by kernel_rfl) opens3 (opens_cons 1 rfl (by kernel_rfl) opens3 (opens_last 2 rfl (by kernel_rfl) opens3)))
theorem opens50 : Opens Try.prog 50 (Kd.slice 75 k75) (fun x => (x.length ≤ 9223372036854775807 ∧ ∀ x0_ ∈ x, wf75 x0_)) := opens_slice Try.underlying50 (by kernel_rfl) opens75
theorem opens40 : Opens Try.prog 40 (Kd.slice 22 (Kd.slice 3 (Kd.int .i64))) (fun x => (x.length ≤ 9223372036854775807 ∧ ∀ x0_ ∈ x, (x0_.length ≤ 9223372036854775807 ∧ ∀ x1_ ∈ x0_, (-9223372036854775808 ≤ x1_ ∧ x1_ ≤ 9223372036854775807)))) := opens_slice Try.underlying40 (by kernel_rfl) opens22
theorem opens52 : Opens Try.prog 52 k52 wf52 := opens_struct (t := 52) Try.underlying52 (by kernel_rfl) (fun x : S52 => (x.f0, x.f1, x.f2, x.f3, x.f4, x.f5)) (fun a => (⟨a.1, a.2.1, a.2.2.1, a.2.2.2.1, a.2.2.2.2.1, a.2.2.2.2.2⟩ : S52)) (fun _ => rfl) (opens_cons 0 rfl (by kernel_rfl) opens3 (opens_cons 1 rfl (by kernel_rfl) opens3 (opens_cons 2 rfl (by kernel_rfl) opens3 (opens_cons 3 rfl (by kernel_rfl) opens50 (opens_cons 4 rfl (by kernel_rfl) opens22 (opens_last 5 rfl (by kernel_rfl) opens40))))))
theorem opens23 : Opens Try.prog 23 (Kd.slice 52 k52) (fun x => (x.length ≤ 9223372036854775807 ∧ ∀ x0_ ∈ x, wf52 x0_)) := opens_slice Try.underlying23 (by kernel_rfl) opens52
theorem opens25 : Opens Try.prog 25 k25 wf25 := opens_struct (t := 25) Try.underlying25 (by kernel_rfl) (fun x : S25 => (x.f0, x.f1)) (fun a => (⟨a.1, a.2⟩ : S25)) (fun _ => rfl) (opens_cons 0 rfl (by kernel_rfl) opens22 (opens_last 1 rfl (by kernel_rfl) opens23))
end Go.Proofs.Ytaddemalepndfab.G
