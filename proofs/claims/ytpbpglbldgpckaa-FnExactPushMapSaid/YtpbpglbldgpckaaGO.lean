/- Written by a program of this claim's own, out of the translation: functions of the program as plain functions, and that the calls answer as these. No conditions. -/
import Derived.Test.YtpbpglbldgpckaaG0
import Derived.Test.YtpbpglbldgpckaaX
namespace Go.Proofs.Ytpbpglbldgpckaa.G
open Go.RowKit Go.Proofs.YtpbpglbldgpckaaW.PrintWords Go.Proofs.Ytpbpglbldgpckaa.X
set_option linter.unusedVariables false
theorem opens3 : Opens Try.prog 3 (Kd.int .i64) (fun x => (-9223372036854775808 ≤ x ∧ x ≤ 9223372036854775807)) := opens_int Try.underlying3
theorem opens45 : Opens Try.prog 45 k45 wf45 := opens_struct (t := 45) Try.underlying45 (by kernel_rfl) (fun x : S45 => (x.f0, x.f1)) (fun a => (⟨a.1, a.2⟩ : S45)) (fun _ => rfl) (opens_cons 0 rfl (by kernel_rfl) opens3 (opens_last 1 rfl (by kernel_rfl) opens3))
theorem opens43 : Opens Try.prog 43 (Kd.slice 45 k45) (fun x => (x.length ≤ 9223372036854775807 ∧ ∀ x0_ ∈ x, wf45 x0_)) := opens_slice Try.underlying43 (by kernel_rfl) opens45
theorem opens47 : Opens Try.prog 47 k47 wf47 := opens_struct (t := 47) Try.underlying47 (by kernel_rfl) (fun x : S47 => (x.f0, x.f1, x.f2, x.f3)) (fun a => (⟨a.1, a.2.1, a.2.2.1, a.2.2.2⟩ : S47)) (fun _ => rfl) (opens_cons 0 rfl (by kernel_rfl) opens43 (opens_cons 1 rfl (by kernel_rfl) opens43 (opens_cons 2 rfl (by kernel_rfl) opens43 (opens_last 3 rfl (by kernel_rfl) opens45))))
end Go.Proofs.Ytpbpglbldgpckaa.G
