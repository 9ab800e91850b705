/- Written by a program of this claim's own, out of the translation: functions of the program as plain functions, and that the calls answer as these. No conditions. -/
import Derived.Test.YtcbikaoackbbjaaG0
import Derived.Test.YtcbikaoackbbjaaX
namespace Go.Proofs.Ytcbikaoackbbjaa.G
open Go.RowKit Go.Proofs.YtcbikaoackbbjaaW.PrintWords Go.Proofs.Ytcbikaoackbbjaa.X
set_option linter.unusedVariables false
theorem opens3 : Opens Try.prog 3 (Kd.int .i64) (fun x => (-9223372036854775808 ≤ x ∧ x ≤ 9223372036854775807)) := opens_int Try.underlying3
theorem opens22 : Opens Try.prog 22 (Kd.slice 3 (Kd.int .i64)) (fun x => (x.length ≤ 9223372036854775807 ∧ ∀ x0_ ∈ x, (-9223372036854775808 ≤ x0_ ∧ x0_ ≤ 9223372036854775807))) := opens_slice Try.underlying22 (by kernel_rfl) opens3
theorem opens24 : Opens Try.prog 24 k24 wf24 := opens_struct (t := 24) Try.underlying24 (by kernel_rfl) (fun x : S24 => x.f0) (fun a => (⟨a⟩ : S24)) (fun _ => rfl) (opens_last 0 rfl (by kernel_rfl) opens22)
theorem opens117 : Opens Try.prog 117 k117 wf117 := opens_struct (t := 117) Try.underlying117 (by kernel_rfl) (fun x : S117 => (x.f0, x.f1, x.f2)) (fun a => (⟨a.1, a.2.1, a.2.2⟩ : S117)) (fun _ => rfl) (opens_cons 0 rfl (by kernel_rfl) opens24 (opens_cons 1 rfl (by kernel_rfl) opens3 (opens_last 2 rfl (by kernel_rfl) opens3)))
theorem opens47 : Opens Try.prog 47 (Kd.slice 117 k117) (fun x => (x.length ≤ 9223372036854775807 ∧ ∀ x0_ ∈ x, wf117 x0_)) := opens_slice Try.underlying47 (by kernel_rfl) opens117
theorem opens160 : Opens Try.prog 160 k160 wf160 := opens_struct (t := 160) Try.underlying160 (by kernel_rfl) (fun x : S160 => (x.f0, x.f1)) (fun a => (⟨a.1, a.2⟩ : S160)) (fun _ => rfl) (opens_cons 0 rfl (by kernel_rfl) opens24 (opens_last 1 rfl (by kernel_rfl) opens3))
theorem opens54 : Opens Try.prog 54 (Kd.slice 160 k160) (fun x => (x.length ≤ 9223372036854775807 ∧ ∀ x0_ ∈ x, wf160 x0_)) := opens_slice Try.underlying54 (by kernel_rfl) opens160
theorem opens56 : Opens Try.prog 56 k56 wf56 := opens_struct (t := 56) Try.underlying56 (by kernel_rfl) (fun x : S56 => (x.f0, x.f1)) (fun a => (⟨a.1, a.2⟩ : S56)) (fun _ => rfl) (opens_cons 0 rfl (by kernel_rfl) opens3 (opens_last 1 rfl (by kernel_rfl) opens54))
theorem opens87 : Opens Try.prog 87 (Kd.slice 56 k56) (fun x => (x.length ≤ 9223372036854775807 ∧ ∀ x0_ ∈ x, wf56 x0_)) := opens_slice Try.underlying87 (by kernel_rfl) opens56
theorem opens89 : Opens Try.prog 89 k89 wf89 := opens_struct (t := 89) Try.underlying89 (by kernel_rfl) (fun x : S89 => (x.f0, x.f1)) (fun a => (⟨a.1, a.2⟩ : S89)) (fun _ => rfl) (opens_cons 0 rfl (by kernel_rfl) opens3 (opens_last 1 rfl (by kernel_rfl) opens87))
end Go.Proofs.Ytcbikaoackbbjaa.G
