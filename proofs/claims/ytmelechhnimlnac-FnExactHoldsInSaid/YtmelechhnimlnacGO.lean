/- Written by a program of this claim's own, out of the translation: functions of the program as plain functions, and that the calls answer as these. No conditions. -/
import Derived.Test.YtmelechhnimlnacG0
import Derived.Test.YtmelechhnimlnacX
namespace Go.Proofs.Ytmelechhnimlnac.G
open Go.RowKit Go.Proofs.YtmelechhnimlnacW.PrintWords Go.Proofs.Ytmelechhnimlnac.X
set_option linter.unusedVariables false
theorem opens3 : Opens Try.prog 3 (Kd.int .i64) (fun x => (-9223372036854775808 ≤ x ∧ x ≤ 9223372036854775807)) := opens_int Try.underlying3
theorem opens25 : Opens Try.prog 25 (Kd.slice 3 (Kd.int .i64)) (fun x => (x.length ≤ 9223372036854775807 ∧ ∀ x0_ ∈ x, (-9223372036854775808 ≤ x0_ ∧ x0_ ≤ 9223372036854775807))) := opens_slice Try.underlying25 (by kernel_rfl) opens3
theorem opens59 : Opens Try.prog 59 k59 wf59 := opens_struct (t := 59) Try.underlying59 (by kernel_rfl) (fun x : S59 => x.f0) (fun a => (⟨a⟩ : S59)) (fun _ => rfl) (opens_last 0 rfl (by kernel_rfl) opens25)
theorem opens61 : Opens Try.prog 61 k61 wf61 := opens_struct (t := 61) Try.underlying61 (by kernel_rfl) (fun x : S61 => (x.f0, x.f1)) (fun a => (⟨a.1, a.2⟩ : S61)) (fun _ => rfl) (opens_cons 0 rfl (by kernel_rfl) opens59 (opens_last 1 rfl (by kernel_rfl) opens3))
theorem opens22 : Opens Try.prog 22 (Kd.slice 61 k61) (fun x => (x.length ≤ 9223372036854775807 ∧ ∀ x0_ ∈ x, wf61 x0_)) := opens_slice Try.underlying22 (by kernel_rfl) opens61
theorem opens24 : Opens Try.prog 24 k24 wf24 := opens_struct (t := 24) Try.underlying24 (by kernel_rfl) (fun x : S24 => (x.f0, x.f1)) (fun a => (⟨a.1, a.2⟩ : S24)) (fun _ => rfl) (opens_cons 0 rfl (by kernel_rfl) opens3 (opens_last 1 rfl (by kernel_rfl) opens22))
theorem opens27 : Opens Try.prog 27 k27 wf27 := opens_struct (t := 27) Try.underlying27 (by kernel_rfl) (fun x : S27 => (x.f0, x.f1)) (fun a => (⟨a.1, a.2⟩ : S27)) (fun _ => rfl) (opens_cons 0 rfl (by kernel_rfl) opens25 (opens_last 1 rfl (by kernel_rfl) opens25))
end Go.Proofs.Ytmelechhnimlnac.G
