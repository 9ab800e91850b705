/- Written by a program of this claim's own, out of the translation: functions of the program as plain functions, and that the calls answer as these. No conditions. -/
import Derived.Test.YtmelechhnimlnaeDoorG0
import Derived.Test.YtmelechhnimlnaeDoorX
namespace Go.Proofs.YtmelechhnimlnaeDoor.G
open Go.RowKit Go.Proofs.YtmelechhnimlnaeDoorW.PrintWords Go.Proofs.YtmelechhnimlnaeDoor.X
set_option linter.unusedVariables false
theorem opens3 : Opens Tryd.prog 3 (Kd.int .i64) (fun x => (-9223372036854775808 ≤ x ∧ x ≤ 9223372036854775807)) := opens_int Tryd.underlying3
theorem opens22 : Opens Tryd.prog 22 (Kd.slice 3 (Kd.int .i64)) (fun x => (x.length ≤ 9223372036854775807 ∧ ∀ x0_ ∈ x, (-9223372036854775808 ≤ x0_ ∧ x0_ ≤ 9223372036854775807))) := opens_slice Tryd.underlying22 (by kernel_rfl) opens3
theorem opens24 : Opens Tryd.prog 24 k24 wf24 := opens_struct (t := 24) Tryd.underlying24 (by kernel_rfl) (fun x : S24 => x.f0) (fun a => (⟨a⟩ : S24)) (fun _ => rfl) (opens_last 0 rfl (by kernel_rfl) opens22)
end Go.Proofs.YtmelechhnimlnaeDoor.G
