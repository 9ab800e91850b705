/- Written by a program of this claim's own, out of the translation: functions of the program as plain functions, and that the calls answer as these. No conditions. -/
import Derived.Test.YtaddemalepndfaeG0
import Derived.Test.YtaddemalepndfaeG7
namespace Go.Proofs.Ytaddemalepndfae.G
open Go.RowKit Go.Proofs.Ytaddemalepndfae.X Go.Proofs.YtaddemalepndfaeW.PrintWords Go.Proofs.YtaddemalepndfaeW.PrintLast Go.Proofs.YtaddemalepndfaeW.PrintMore
attribute [local go_sem] max2_int min2_int max_two min_two max_three min_three max_four min_four   -- for this text's walks alone
set_option linter.unusedVariables false
set_option linter.unusedSimpArgs false

/-! ### impl_areAll_int__impl_isColumns: function 100004 -/
theorem enters20 : ∀ args w, (callFunc 20 args).run Try.prog w = .ok (.enter 20 args) w := enters_of Try.func20 (by kernel_rfl) rfl
def impl_areAll_int__impl_isColumns.f (l0 : List Int)  : Option Bool := allO (fun x => impl_isColumns.f x) l0
set_option maxHeartbeats 8000000 in
set_option maxRecDepth 100000 in
theorem impl_areAll_int__impl_isColumns.calls (A0 : Option Addr) (c0 : Nat) (l0 : List Int)  (r : Bool) (w : World) (hr0 : Kd.C (Kd.int .i64) w A0 l0.length l0) (hc0 : l0.length ≤ c0) (h : impl_areAll_int__impl_isColumns.f l0  = some r) :
  Calls Try.prog 19 #[.slice A0 l0.length c0, .func (.func 20) #[] #[]] w fun e w' => e = .returned (.bool r) ∧ Below w.heap.size w w' := by
 refine impl_areAll_int.any 20 #[] enters20 (fun x => impl_isColumns.f x) A0 c0 l0 r w hr0 hc0 ?_ h
 intro W x cs b hW hK hb
 obtain rfl : cs = [.int .i64 x] := hK
 simp only [encOne, encAgg, List.headD_cons, app0, app1, app2, app3]
 refine (impl_isColumns.calls x b W hb).mono ?_
 rintro e w' ⟨he, hd⟩
 exact ⟨he, hd.below⟩

end Go.Proofs.Ytaddemalepndfae.G
