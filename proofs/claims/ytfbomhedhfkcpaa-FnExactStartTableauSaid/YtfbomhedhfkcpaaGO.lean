/- Written by a program of this claim's own, out of the translation: functions of the program as plain functions, and that the calls answer as these. No conditions. -/
import Derived.Test.YtfbomhedhfkcpaaG0
import Derived.Test.YtfbomhedhfkcpaaX
namespace Go.Proofs.Ytfbomhedhfkcpaa.G
open Go.RowKit Go.Proofs.YtfbomhedhfkcpaaW.PrintWords Go.Proofs.Ytfbomhedhfkcpaa.X
set_option linter.unusedVariables false
theorem opens3 : Opens Try.prog 3 (Kd.int .i64) (fun x => (-9223372036854775808 ≤ x ∧ x ≤ 9223372036854775807)) := opens_int Try.underlying3
theorem opens48 : Opens Try.prog 48 (Kd.slice 3 (Kd.int .i64)) (fun x => (x.length ≤ 9223372036854775807 ∧ ∀ x0_ ∈ x, (-9223372036854775808 ≤ x0_ ∧ x0_ ≤ 9223372036854775807))) := opens_slice Try.underlying48 (by kernel_rfl) opens3
theorem opens23 : Opens Try.prog 23 (Kd.slice 48 (Kd.slice 3 (Kd.int .i64))) (fun x => (x.length ≤ 9223372036854775807 ∧ ∀ x0_ ∈ x, (x0_.length ≤ 9223372036854775807 ∧ ∀ x1_ ∈ x0_, (-9223372036854775808 ≤ x1_ ∧ x1_ ≤ 9223372036854775807)))) := opens_slice Try.underlying23 (by kernel_rfl) opens48
theorem opens74 : Opens Try.prog 74 k74 wf74 := opens_struct (t := 74) Try.underlying74 (by kernel_rfl) (fun x : S74 => (x.f0, x.f1)) (fun a => (⟨a.1, a.2⟩ : S74)) (fun _ => rfl) (opens_cons 0 rfl (by kernel_rfl) opens48 (opens_last 1 rfl (by kernel_rfl) opens48))
theorem opens22 : Opens Try.prog 22 (Kd.slice 74 k74) (fun x => (x.length ≤ 9223372036854775807 ∧ ∀ x0_ ∈ x, wf74 x0_)) := opens_slice Try.underlying22 (by kernel_rfl) opens74
theorem opens151 : Opens Try.prog 151 k151 wf151 := opens_struct (t := 151) Try.underlying151 (by kernel_rfl) (fun x : S151 => x.f0) (fun a => (⟨a⟩ : S151)) (fun _ => rfl) (opens_last 0 rfl (by kernel_rfl) opens48)
theorem opens37 : Opens Try.prog 37 (Kd.slice 151 k151) (fun x => (x.length ≤ 9223372036854775807 ∧ ∀ x0_ ∈ x, wf151 x0_)) := opens_slice Try.underlying37 (by kernel_rfl) opens151
theorem opens39 : Opens Try.prog 39 k39 wf39 := opens_struct (t := 39) Try.underlying39 (by kernel_rfl) (fun x : S39 => (x.f0, x.f1)) (fun a => (⟨a.1, a.2⟩ : S39)) (fun _ => rfl) (opens_cons 0 rfl (by kernel_rfl) opens3 (opens_last 1 rfl (by kernel_rfl) opens37))
theorem opens65 : Opens Try.prog 65 k65 wf65 := opens_struct (t := 65) Try.underlying65 (by kernel_rfl) (fun x : S65 => (x.f0, x.f1)) (fun a => (⟨a.1, a.2⟩ : S65)) (fun _ => rfl) (opens_cons 0 rfl (by kernel_rfl) opens48 (opens_last 1 rfl (by kernel_rfl) opens23))
end Go.Proofs.Ytfbomhedhfkcpaa.G
