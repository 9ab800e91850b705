/- Written by a program of this claim's own, out of the translation: functions of the program as plain functions, and that the calls answer as these. No conditions. -/
import Derived.Test.YtkikilacigglmaaG0
import Derived.Test.YtkikilacigglmaaX
namespace Go.Proofs.Ytkikilacigglmaa.G
open Go.RowKit Go.Proofs.YtkikilacigglmaaW.PrintWords Go.Proofs.Ytkikilacigglmaa.X
theorem opens3 : Opens Try.prog 3 (Kd.int .i64) (fun x => (-9223372036854775808 ≤ x ∧ x ≤ 9223372036854775807)) := opens_int Try.underlying3
theorem opens24 : Opens Try.prog 24 k24 wf24 := opens_struct (t := 24) Try.underlying24 (by kernel_rfl) (fun x : S24 => (x.f0, x.f1)) (fun a => (⟨a.1, a.2⟩ : S24)) (fun _ => rfl) (opens_cons 0 rfl (by kernel_rfl) opens3 (opens_last 1 rfl (by kernel_rfl) opens3))
theorem opens36 : Opens Try.prog 36 (Kd.slice 3 (Kd.int .i64)) (fun x => (x.length ≤ 9223372036854775807 ∧ ∀ x0_ ∈ x, (-9223372036854775808 ≤ x0_ ∧ x0_ ≤ 9223372036854775807))) := opens_slice Try.underlying36 (by kernel_rfl) opens3
theorem opens38 : Opens Try.prog 38 k38 wf38 := opens_struct (t := 38) Try.underlying38 (by kernel_rfl) (fun x : S38 => x.f0) (fun a => (⟨a⟩ : S38)) (fun _ => rfl) (opens_last 0 rfl (by kernel_rfl) opens36)
theorem opens103 : Opens Try.prog 103 k103 wf103 := opens_struct (t := 103) Try.underlying103 (by kernel_rfl) (fun x : S103 => (x.f0, x.f1, x.f2)) (fun a => (⟨a.1, a.2.1, a.2.2⟩ : S103)) (fun _ => rfl) (opens_cons 0 rfl (by kernel_rfl) opens3 (opens_cons 1 rfl (by kernel_rfl) opens3 (opens_last 2 rfl (by kernel_rfl) opens3)))
theorem opens45 : Opens Try.prog 45 (Kd.slice 103 k103) (fun x => (x.length ≤ 9223372036854775807 ∧ ∀ x0_ ∈ x, wf103 x0_)) := opens_slice Try.underlying45 (by kernel_rfl) opens103
theorem opens122 : Opens Try.prog 122 k122 wf122 := opens_struct (t := 122) Try.underlying122 (by kernel_rfl) (fun x : S122 => (x.f0, x.f1, x.f2)) (fun a => (⟨a.1, a.2.1, a.2.2⟩ : S122)) (fun _ => rfl) (opens_cons 0 rfl (by kernel_rfl) opens3 (opens_cons 1 rfl (by kernel_rfl) opens3 (opens_last 2 rfl (by kernel_rfl) opens3)))
theorem opens70 : Opens Try.prog 70 (Kd.slice 122 k122) (fun x => (x.length ≤ 9223372036854775807 ∧ ∀ x0_ ∈ x, wf122 x0_)) := opens_slice Try.underlying70 (by kernel_rfl) opens122
theorem opens83 : Opens Try.prog 83 (Kd.slice 36 (Kd.slice 3 (Kd.int .i64))) (fun x => (x.length ≤ 9223372036854775807 ∧ ∀ x0_ ∈ x, (x0_.length ≤ 9223372036854775807 ∧ ∀ x1_ ∈ x0_, (-9223372036854775808 ≤ x1_ ∧ x1_ ≤ 9223372036854775807)))) := opens_slice Try.underlying83 (by kernel_rfl) opens36
theorem opens135 : Opens Try.prog 135 k135 wf135 := opens_struct (t := 135) Try.underlying135 (by kernel_rfl) (fun x : S135 => (x.f0, x.f1, x.f2, x.f3, x.f4, x.f5)) (fun a => (⟨a.1, a.2.1, a.2.2.1, a.2.2.2.1, a.2.2.2.2.1, a.2.2.2.2.2⟩ : S135)) (fun _ => rfl) (opens_cons 0 rfl (by kernel_rfl) opens3 (opens_cons 1 rfl (by kernel_rfl) opens3 (opens_cons 2 rfl (by kernel_rfl) opens3 (opens_cons 3 rfl (by kernel_rfl) opens70 (opens_cons 4 rfl (by kernel_rfl) opens36 (opens_last 5 rfl (by kernel_rfl) opens83))))))
theorem opens52 : Opens Try.prog 52 (Kd.slice 135 k135) (fun x => (x.length ≤ 9223372036854775807 ∧ ∀ x0_ ∈ x, wf135 x0_)) := opens_slice Try.underlying52 (by kernel_rfl) opens135
theorem opens54 : Opens Try.prog 54 k54 wf54 := opens_struct (t := 54) Try.underlying54 (by kernel_rfl) (fun x : S54 => (x.f0, x.f1)) (fun a => (⟨a.1, a.2⟩ : S54)) (fun _ => rfl) (opens_cons 0 rfl (by kernel_rfl) opens36 (opens_last 1 rfl (by kernel_rfl) opens52))
theorem opens85 : Opens Try.prog 85 k85 wf85 := opens_struct (t := 85) Try.underlying85 (by kernel_rfl) (fun x : S85 => (x.f0, x.f1)) (fun a => (⟨a.1, a.2⟩ : S85)) (fun _ => rfl) (opens_cons 0 rfl (by kernel_rfl) opens36 (opens_last 1 rfl (by kernel_rfl) opens83))
end Go.Proofs.Ytkikilacigglmaa.G
