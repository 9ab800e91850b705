/- Written by a program of this claim's own, out of the translation: functions of the program as plain functions, and that the calls answer as these. No conditions. -/
import Derived.Test.YtmelechhnimlnadG0
import Derived.Test.YtmelechhnimlnadX
namespace Go.Proofs.Ytmelechhnimlnad.G
open Go.RowKit Go.Proofs.YtmelechhnimlnadW.PrintWords Go.Proofs.Ytmelechhnimlnad.X
set_option linter.unusedVariables false
theorem opens3 : Opens Try.prog 3 (Kd.int .i64) (fun x => (-9223372036854775808 ≤ x ∧ x ≤ 9223372036854775807)) := opens_int Try.underlying3
theorem opens35 : Opens Try.prog 35 (Kd.slice 3 (Kd.int .i64)) (fun x => (x.length ≤ 9223372036854775807 ∧ ∀ x0_ ∈ x, (-9223372036854775808 ≤ x0_ ∧ x0_ ≤ 9223372036854775807))) := opens_slice Try.underlying35 (by kernel_rfl) opens3
theorem opens37 : Opens Try.prog 37 k37 wf37 := opens_struct (t := 37) Try.underlying37 (by kernel_rfl) (fun x : S37 => (x.f0, x.f1)) (fun a => (⟨a.1, a.2⟩ : S37)) (fun _ => rfl) (opens_cons 0 rfl (by kernel_rfl) opens35 (opens_last 1 rfl (by kernel_rfl) opens35))
theorem opens22 : Opens Try.prog 22 (Kd.slice 37 k37) (fun x => (x.length ≤ 9223372036854775807 ∧ ∀ x0_ ∈ x, wf37 x0_)) := opens_slice Try.underlying22 (by kernel_rfl) opens37
theorem opens23 : Opens Try.prog 23 (Kd.slice 35 (Kd.slice 3 (Kd.int .i64))) (fun x => (x.length ≤ 9223372036854775807 ∧ ∀ x0_ ∈ x, (x0_.length ≤ 9223372036854775807 ∧ ∀ x1_ ∈ x0_, (-9223372036854775808 ≤ x1_ ∧ x1_ ≤ 9223372036854775807)))) := opens_slice Try.underlying23 (by kernel_rfl) opens35
end Go.Proofs.Ytmelechhnimlnad.G
