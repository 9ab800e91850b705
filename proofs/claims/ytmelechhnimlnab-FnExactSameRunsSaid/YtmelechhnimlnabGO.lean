/- Written by a program of this claim's own, out of the translation: functions of the program as plain functions, and that the calls answer as these. No conditions. -/
import Derived.Test.YtmelechhnimlnabG0
import Derived.Test.YtmelechhnimlnabX
namespace Go.Proofs.Ytmelechhnimlnab.G
open Go.RowKit Go.Proofs.YtmelechhnimlnabW.PrintWords Go.Proofs.Ytmelechhnimlnab.X
set_option linter.unusedVariables false
theorem opens3 : Opens Try.prog 3 (Kd.int .i64) (fun x => (-9223372036854775808 ≤ x ∧ x ≤ 9223372036854775807)) := opens_int Try.underlying3
theorem opens36 : Opens Try.prog 36 k36 wf36 := opens_struct (t := 36) Try.underlying36 (by kernel_rfl) (fun x : S36 => (x.f0, x.f1, x.f2)) (fun a => (⟨a.1, a.2.1, a.2.2⟩ : S36)) (fun _ => rfl) (opens_cons 0 rfl (by kernel_rfl) opens3 (opens_cons 1 rfl (by kernel_rfl) opens3 (opens_last 2 rfl (by kernel_rfl) opens3)))
theorem opens22 : Opens Try.prog 22 (Kd.slice 36 k36) (fun x => (x.length ≤ 9223372036854775807 ∧ ∀ x0_ ∈ x, wf36 x0_)) := opens_slice Try.underlying22 (by kernel_rfl) opens36
end Go.Proofs.Ytmelechhnimlnab.G
