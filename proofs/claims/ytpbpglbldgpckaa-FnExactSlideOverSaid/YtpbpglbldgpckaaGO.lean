/- Written by a program of this claim's own, out of the translation: functions of the program as plain functions, and that the calls answer as these. No conditions. -/
import Derived.Test.YtpbpglbldgpckaaG0
import Derived.Test.YtpbpglbldgpckaaX
namespace Go.Proofs.Ytpbpglbldgpckaa.G
open Go.RowKit Go.Proofs.YtpbpglbldgpckaaW.PrintWords Go.Proofs.Ytpbpglbldgpckaa.X
set_option linter.unusedVariables false
theorem opens3 : Opens Try.prog 3 (Kd.int .i64) (fun x => (-9223372036854775808 ≤ x ∧ x ≤ 9223372036854775807)) := opens_int Try.underlying3
theorem opens114 : Opens Try.prog 114 k114 wf114 := opens_struct (t := 114) Try.underlying114 (by kernel_rfl) (fun x : S114 => (x.f0, x.f1, x.f2)) (fun a => (⟨a.1, a.2.1, a.2.2⟩ : S114)) (fun _ => rfl) (opens_cons 0 rfl (by kernel_rfl) opens3 (opens_cons 1 rfl (by kernel_rfl) opens3 (opens_last 2 rfl (by kernel_rfl) opens3)))
theorem opens22 : Opens Try.prog 22 (Kd.slice 114 k114) (fun x => (x.length ≤ 9223372036854775807 ∧ ∀ x0_ ∈ x, wf114 x0_)) := opens_slice Try.underlying22 (by kernel_rfl) opens114
theorem opens31 : Opens Try.prog 31 (Kd.slice 3 (Kd.int .i64)) (fun x => (x.length ≤ 9223372036854775807 ∧ ∀ x0_ ∈ x, (-9223372036854775808 ≤ x0_ ∧ x0_ ≤ 9223372036854775807))) := opens_slice Try.underlying31 (by kernel_rfl) opens3
theorem opens45 : Opens Try.prog 45 k45 wf45 := opens_struct (t := 45) Try.underlying45 (by kernel_rfl) (fun x : S45 => (x.f0, x.f1)) (fun a => (⟨a.1, a.2⟩ : S45)) (fun _ => rfl) (opens_cons 0 rfl (by kernel_rfl) opens3 (opens_last 1 rfl (by kernel_rfl) opens3))
theorem opens43 : Opens Try.prog 43 (Kd.slice 45 k45) (fun x => (x.length ≤ 9223372036854775807 ∧ ∀ x0_ ∈ x, wf45 x0_)) := opens_slice Try.underlying43 (by kernel_rfl) opens45
theorem opens47 : Opens Try.prog 47 k47 wf47 := opens_struct (t := 47) Try.underlying47 (by kernel_rfl) (fun x : S47 => (x.f0, x.f1, x.f2, x.f3)) (fun a => (⟨a.1, a.2.1, a.2.2.1, a.2.2.2⟩ : S47)) (fun _ => rfl) (opens_cons 0 rfl (by kernel_rfl) opens43 (opens_cons 1 rfl (by kernel_rfl) opens43 (opens_cons 2 rfl (by kernel_rfl) opens43 (opens_last 3 rfl (by kernel_rfl) opens45))))
theorem opens176 : Opens Try.prog 176 k176 wf176 := opens_struct (t := 176) Try.underlying176 (by kernel_rfl) (fun x : S176 => (x.f0, x.f1, x.f2)) (fun a => (⟨a.1, a.2.1, a.2.2⟩ : S176)) (fun _ => rfl) (opens_cons 0 rfl (by kernel_rfl) opens3 (opens_cons 1 rfl (by kernel_rfl) opens3 (opens_last 2 rfl (by kernel_rfl) opens31)))
theorem opens64 : Opens Try.prog 64 (Kd.slice 176 k176) (fun x => (x.length ≤ 9223372036854775807 ∧ ∀ x0_ ∈ x, wf176 x0_)) := opens_slice Try.underlying64 (by kernel_rfl) opens176
theorem opens66 : Opens Try.prog 66 k66 wf66 := opens_struct (t := 66) Try.underlying66 (by kernel_rfl) (fun x : S66 => (x.f0, x.f1, x.f2, x.f3, x.f4, x.f5, x.f6)) (fun a => (⟨a.1, a.2.1, a.2.2.1, a.2.2.2.1, a.2.2.2.2.1, a.2.2.2.2.2.1, a.2.2.2.2.2.2⟩ : S66)) (fun _ => rfl) (opens_cons 0 rfl (by kernel_rfl) opens31 (opens_cons 1 rfl (by kernel_rfl) opens3 (opens_cons 2 rfl (by kernel_rfl) opens31 (opens_cons 3 rfl (by kernel_rfl) opens64 (opens_cons 4 rfl (by kernel_rfl) opens31 (opens_cons 5 rfl (by kernel_rfl) opens3 (opens_last 6 rfl (by kernel_rfl) opens3)))))))
theorem opens4 : Opens Try.prog 4 Kd.bool (fun x => True) := opens_bool Try.underlying4
theorem opens181 : Opens Try.prog 181 k181 wf181 := opens_struct (t := 181) Try.underlying181 (by kernel_rfl) (fun x : S181 => (x.f0, x.f1, x.f2)) (fun a => (⟨a.1, a.2.1, a.2.2⟩ : S181)) (fun _ => rfl) (opens_cons 0 rfl (by kernel_rfl) opens3 (opens_cons 1 rfl (by kernel_rfl) opens3 (opens_last 2 rfl (by kernel_rfl) opens4)))
theorem opens76 : Opens Try.prog 76 (Kd.slice 181 k181) (fun x => (x.length ≤ 9223372036854775807 ∧ ∀ x0_ ∈ x, wf181 x0_)) := opens_slice Try.underlying76 (by kernel_rfl) opens181
theorem opens179 : Opens Try.prog 179 k179 wf179 := opens_struct (t := 179) Try.underlying179 (by kernel_rfl) (fun x : S179 => (x.f0, x.f1, x.f2)) (fun a => (⟨a.1, a.2.1, a.2.2⟩ : S179)) (fun _ => rfl) (opens_cons 0 rfl (by kernel_rfl) opens31 (opens_cons 1 rfl (by kernel_rfl) opens31 (opens_last 2 rfl (by kernel_rfl) opens4)))
theorem opens77 : Opens Try.prog 77 (Kd.slice 179 k179) (fun x => (x.length ≤ 9223372036854775807 ∧ ∀ x0_ ∈ x, wf179 x0_)) := opens_slice Try.underlying77 (by kernel_rfl) opens179
theorem opens79 : Opens Try.prog 79 k79 wf79 := opens_struct (t := 79) Try.underlying79 (by kernel_rfl) (fun x : S79 => (x.f0, x.f1)) (fun a => (⟨a.1, a.2⟩ : S79)) (fun _ => rfl) (opens_cons 0 rfl (by kernel_rfl) opens76 (opens_last 1 rfl (by kernel_rfl) opens77))
end Go.Proofs.Ytpbpglbldgpckaa.G
