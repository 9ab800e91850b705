/- Written by a program of this claim's own, out of the translation: functions of the program as plain functions, and that the calls answer as these. No conditions. -/
import Derived.Test.YtmelechhnimlnacG0
import Derived.Test.YtmelechhnimlnacG6
namespace Go.Proofs.Ytmelechhnimlnac.G
open Go.RowKit Go.Proofs.Ytmelechhnimlnac.X Go.Proofs.YtmelechhnimlnacW.PrintWords Go.Proofs.YtmelechhnimlnacW.PrintLast Go.Proofs.YtmelechhnimlnacW.PrintMore
attribute [local go_sem] max2_int min2_int max_two min_two max_three min_three max_four min_four   -- for this text's walks alone
set_option linter.unusedVariables false
set_option linter.unusedSimpArgs false

/-! ### impl_isCell: function 47 -/
def impl_isCell.f (a0 : Int) : Option (Bool) := (impl_within.f a0 (-100000) 100000).bind fun t213 => (some t213)
set_option maxHeartbeats 8000000 in
set_option maxRecDepth 100000 in
theorem impl_isCell.calls (a0 : Int) (r : Bool) (w : World) (h : impl_isCell.f a0 = some r) :
  Calls Try.prog 47 #[.int .i64 a0] w fun e w' => e = .returned (.bool r) ∧ Drawn0 w w' := by
 have H : ((impl_within.f a0 (-100000) 100000).bind fun t213 => (some t213)) = some r := h
 clear h
 replace H := Option.bind_eq_some_iff.mp H
 obtain ⟨t213, A20, H⟩ := H
 replace H : (some t213) = some r := H
 have A2 := xm A20
 clear A20
 obtain rfl := Option.some.inj H
 go_enter Try.func47, Try.ntmps47
 go_wp2_with (first | ((with_reducible refine gate_callee (f := 41) rfl ?_); refine goesL_ (some 4) rfl rfl Try.func41 (by kernel_rfl) rfl #[.int .i64 a0, .int .i64 (-100000), .int .i64 100000] rfl mB ?_; (with_reducible refine (impl_within.calls a0 (-100000) 100000 t213 _ A2.out).mono ?_); rintro e w' ⟨rfl, ⟨nd, rfl⟩⟩; refine ⟨_, rfl, ?_⟩))
 go_ret
 exact ⟨sB, dB⟩

/-! ### impl_areAll_int__impl_isCell: function 100000 -/
theorem enters47 : ∀ args w, (callFunc 47 args).run Try.prog w = .ok (.enter 47 args) w := enters_of Try.func47 (by kernel_rfl) rfl
def impl_areAll_int__impl_isCell.f (l0 : List Int)  : Option Bool := allO (fun x => impl_isCell.f x) l0
set_option maxHeartbeats 8000000 in
set_option maxRecDepth 100000 in
theorem impl_areAll_int__impl_isCell.calls (A0 : Option Addr) (c0 : Nat) (l0 : List Int)  (r : Bool) (w : World) (hr0 : Kd.C (Kd.int .i64) w A0 l0.length l0) (hc0 : l0.length ≤ c0) (h : impl_areAll_int__impl_isCell.f l0  = some r) :
  Calls Try.prog 46 #[.slice A0 l0.length c0, .func (.func 47) #[] #[]] w fun e w' => e = .returned (.bool r) ∧ Below w.heap.size w w' := by
 refine impl_areAll_int.any 47 #[] enters47 (fun x => impl_isCell.f x) A0 c0 l0 r w hr0 hc0 ?_ h
 intro W x cs b hW hK hb
 obtain rfl : cs = [.int .i64 x] := hK
 simp only [encOne, encAgg, List.headD_cons, app0, app1, app2, app3]
 refine (impl_isCell.calls x b W hb).mono ?_
 rintro e w' ⟨he, hd⟩
 exact ⟨he, hd.below⟩

/-! ### impl_GoodRow: function 42 -/
def impl_GoodRow.f (l0_0 : List Int) : Option (Bool) := if (l0_0.length : Int) ≤ 6 then ((impl_areAll_int__impl_isCell.f l0_0).bind fun t215 => (some t215)) else (some false)
set_option maxHeartbeats 8000000 in
set_option maxRecDepth 100000 in
theorem impl_GoodRow.calls (A0_0 : Option Addr) (c0_0 : Nat) (l0_0 : List Int) (r : Bool) (w : World) (hr0_0 : Kd.C (Kd.int .i64) w A0_0 l0_0.length l0_0) (hc0_0 : l0_0.length ≤ c0_0) (h : impl_GoodRow.f l0_0 = some r) :
  Calls Try.prog 42 #[.agg #[.slice A0_0 l0_0.length c0_0]] w fun e w' => e = .returned (.bool r) ∧ Below w.heap.size w w' := by
 have hu50 := Try.underlying50
 have HR0_0 := xm hr0_0
 have HC0_0 := xm hc0_0
 clear hr0_0 hc0_0
 have HB := xm (Below.refl w.heap.size w)
 have H : (if (l0_0.length : Int) ≤ 6 then ((impl_areAll_int__impl_isCell.f l0_0).bind fun t215 => (some t215)) else (some false)) = some r := h
 clear h
 by_cases c2 : (l0_0.length : Int) ≤ 6
 ·rw [if_pos c2] at H
  have c2b0 : decide ((l0_0.length : Int) ≤ 6) = true := decide_eq_true c2
  have c2b1 : decide (l0_0.length ≤ 6) = true := decide_eq_true (by omega)
  clear c2
  replace H := Option.bind_eq_some_iff.mp H
  obtain ⟨t215, A30, H⟩ := H
  replace H : (some t215) = some r := H
  have A3 := xm A30
  clear A30
  obtain rfl := Option.some.inj H
  go_enter Try.func42, Try.ntmps42
  go_wp2_with (first | ((with_reducible refine gate_dst (N := 1) rfl ?_); refine box_event ?hg (N := 1) ?hd (cs := #[.slice A0_0 l0_0.length c0_0]) (t := 50) ?hr ?_; (case hd => rfl); (case hg => rfl); (case hr => exact zB); intro gb214 hg w4 hbox hb; have n0_ := xm (below_step bB hb); have n1_ := xm (hbox); have n2_ := xm ((by rw [hg]; exact (xz bB) : w.heap.size ≤ gb214)); have n3_ := xm ((by rw [hg]; exact (xz bB) : w.heap.size ≤ gb214)); revert n0_ n1_ n2_ n3_; clear HB; intro HB BK214 GW214 GE214; clear hb hbox hg; obtain ⟨hcz5_0, hfz5_0⟩ := cz1 BK214.out) | (go_at_call 46; (with_reducible refine (impl_areAll_int__impl_isCell.calls _ _ l0_0 t215 _ ?side1 ?side2 A3.out).mono ?_); (case side1 => exact cB (Kd.C_below HR0_0.out HB.out)); (case side2 => exact HC0_0.out); rintro e w6 ⟨rfl, hb⟩; have n0_ := xm (blk_below (kB BK214) hb); have n1_ := xm (below_step bG hb); revert n0_ n1_; clear BK214 HB; intro BK214 HB; (try clear hb)))
  go_ret
  exact ⟨eB, bG⟩
 ·rw [if_neg c2] at H
  have c2b0 : decide ((l0_0.length : Int) ≤ 6) = false := decide_eq_false c2
  have c2b1 : decide (l0_0.length ≤ 6) = false := decide_eq_false (by omega)
  clear c2
  obtain rfl := Option.some.inj H
  go_enter Try.func42, Try.ntmps42
  go_wp2_with (first | ((with_reducible refine gate_dst (N := 1) rfl ?_); refine box_event ?hg (N := 1) ?hd (cs := #[.slice A0_0 l0_0.length c0_0]) (t := 50) ?hr ?_; (case hd => rfl); (case hg => rfl); (case hr => exact zB); intro gb214 hg w7 hbox hb; have n0_ := xm (below_step bB hb); have n1_ := xm (hbox); have n2_ := xm ((by rw [hg]; exact (xz bB) : w.heap.size ≤ gb214)); have n3_ := xm ((by rw [hg]; exact (xz bB) : w.heap.size ≤ gb214)); revert n0_ n1_ n2_ n3_; clear HB; intro HB BK214 GW214 GE214; clear hb hbox hg; obtain ⟨hcz8_0, hfz8_0⟩ := cz1 BK214.out))
  go_ret
  exact ⟨eB, bG⟩

/-! ### impl_isRowOf: function 34 -/
def impl_isRowOf.f (l0_0 : List Int) (a1 : Int) : Option (Bool) := (impl_GoodRow.f l0_0).bind fun t217 => (if t217 = true then (some ((l0_0.length : Int) == a1)) else (some false))
set_option maxHeartbeats 8000000 in
set_option maxRecDepth 100000 in
theorem impl_isRowOf.calls (A0_0 : Option Addr) (c0_0 : Nat) (l0_0 : List Int) (a1 : Int) (r : Bool) (w : World) (hr0_0 : Kd.C (Kd.int .i64) w A0_0 l0_0.length l0_0) (hc0_0 : l0_0.length ≤ c0_0) (h : impl_isRowOf.f l0_0 a1 = some r) :
  Calls Try.prog 34 #[.agg #[.slice A0_0 l0_0.length c0_0], .int .i64 a1] w fun e w' => e = .returned (.bool r) ∧ Below w.heap.size w w' := by
 have hu50 := Try.underlying50
 have HR0_0 := xm hr0_0
 have HC0_0 := xm hc0_0
 clear hr0_0 hc0_0
 have HB := xm (Below.refl w.heap.size w)
 have H : ((impl_GoodRow.f l0_0).bind fun t217 => (if t217 = true then (some ((l0_0.length : Int) == a1)) else (some false))) = some r := h
 clear h
 replace H := Option.bind_eq_some_iff.mp H
 obtain ⟨t217, A30, H⟩ := H
 replace H : (if t217 = true then (some ((l0_0.length : Int) == a1)) else (some false)) = some r := H
 have A3 := xm A30
 clear A30
 by_cases c4 : t217 = true
 ·subst c4
  have H1 : (some ((l0_0.length : Int) == a1)) = some r := by first | (with_reducible rfl) | (rw [if_pos rfl] at H; exact H)
  clear H
  have H := H1
  clear H1
  obtain rfl := Option.some.inj H
  go_enter Try.func34, Try.ntmps34
  go_wp2_with (first | ((with_reducible refine gate_dst (N := 2) rfl ?_); (try (refine gate_guard (by rfl) ?_; dsimp only)); refine box_event ?hg (N := 2) ?hd (cs := #[.slice A0_0 l0_0.length c0_0]) (t := 50) ?hr ?_; (case hd => rfl); (case hg => rfl); (case hr => exact zB); intro gb216 hg w5 hbox hb; have n0_ := xm (below_step bB hb); have n1_ := xm (hbox); have n2_ := xm ((by rw [hg]; exact (xz bB) : w.heap.size ≤ gb216)); have n3_ := xm ((by rw [hg]; exact (xz bB) : w.heap.size ≤ gb216)); revert n0_ n1_ n2_ n3_; clear HB; intro HB BK216 GW216 GE216; clear hb hbox hg; obtain ⟨hcz6_0, hfz6_0⟩ := cz1 BK216.out) | ((with_reducible refine gate_callee (f := 42) rfl ?_); refine goesL_ (some 6) rfl rfl Try.func42 (by kernel_rfl) rfl #[.agg #[.slice A0_0 l0_0.length c0_0]] rfl mB ?_; (with_reducible refine (impl_GoodRow.calls _ _ l0_0 true _ ?side1 ?side2 A3.out).mono ?_); (case side1 => exact cB (Kd.C_below HR0_0.out HB.out)); (case side2 => exact HC0_0.out); rintro e w7 ⟨rfl, hb⟩; refine ⟨_, rfl, ?_⟩; have n0_ := xm (blk_below (kB BK216) hb); have n1_ := xm (below_step bG hb); revert n0_ n1_; clear BK216 HB; intro BK216 HB; (try clear hb); obtain ⟨hcz8_0, hfz8_0⟩ := cz1 BK216.out))
  go_ret
  exact ⟨eB, bG⟩
 ·replace c4 := Bool.eq_false_iff.mpr c4
  subst c4
  have H1 : (some false) = some r := by first | (with_reducible rfl) | (rw [if_neg (show ¬ (false = true) by decide)] at H; exact H)
  clear H
  have H := H1
  clear H1
  obtain rfl := Option.some.inj H
  go_enter Try.func34, Try.ntmps34
  go_wp2_with (first | ((with_reducible refine gate_dst (N := 2) rfl ?_); (try (refine gate_guard (by rfl) ?_; dsimp only)); refine box_event ?hg (N := 2) ?hd (cs := #[.slice A0_0 l0_0.length c0_0]) (t := 50) ?hr ?_; (case hd => rfl); (case hg => rfl); (case hr => exact zB); intro gb216 hg w9 hbox hb; have n0_ := xm (below_step bB hb); have n1_ := xm (hbox); have n2_ := xm ((by rw [hg]; exact (xz bB) : w.heap.size ≤ gb216)); have n3_ := xm ((by rw [hg]; exact (xz bB) : w.heap.size ≤ gb216)); revert n0_ n1_ n2_ n3_; clear HB; intro HB BK216 GW216 GE216; clear hb hbox hg; obtain ⟨hcz10_0, hfz10_0⟩ := cz1 BK216.out) | ((with_reducible refine gate_callee (f := 42) rfl ?_); refine goesL_ (some 6) rfl rfl Try.func42 (by kernel_rfl) rfl #[.agg #[.slice A0_0 l0_0.length c0_0]] rfl mB ?_; (with_reducible refine (impl_GoodRow.calls _ _ l0_0 false _ ?side1 ?side2 A3.out).mono ?_); (case side1 => exact cB (Kd.C_below HR0_0.out HB.out)); (case side2 => exact HC0_0.out); rintro e w11 ⟨rfl, hb⟩; refine ⟨_, rfl, ?_⟩; have n0_ := xm (blk_below (kB BK216) hb); have n1_ := xm (below_step bG hb); revert n0_ n1_; clear BK216 HB; intro BK216 HB; (try clear hb)))
  go_ret
  exact ⟨eB, bG⟩

/-! ### impl_isWeight: function 35 -/
def impl_isWeight.f (a0 : Int) : Option (Bool) := (impl_within.f a0 (-1000000) 1000000).bind fun t218 => (some t218)
set_option maxHeartbeats 8000000 in
set_option maxRecDepth 100000 in
theorem impl_isWeight.calls (a0 : Int) (r : Bool) (w : World) (h : impl_isWeight.f a0 = some r) :
  Calls Try.prog 35 #[.int .i64 a0] w fun e w' => e = .returned (.bool r) ∧ Drawn0 w w' := by
 have H : ((impl_within.f a0 (-1000000) 1000000).bind fun t218 => (some t218)) = some r := h
 clear h
 replace H := Option.bind_eq_some_iff.mp H
 obtain ⟨t218, A20, H⟩ := H
 replace H : (some t218) = some r := H
 have A2 := xm A20
 clear A20
 obtain rfl := Option.some.inj H
 go_enter Try.func35, Try.ntmps35
 go_wp2_with (first | ((with_reducible refine gate_callee (f := 41) rfl ?_); refine goesL_ (some 4) rfl rfl Try.func41 (by kernel_rfl) rfl #[.int .i64 a0, .int .i64 (-1000000), .int .i64 1000000] rfl mB ?_; (with_reducible refine (impl_within.calls a0 (-1000000) 1000000 t218 _ A2.out).mono ?_); rintro e w' ⟨rfl, ⟨nd, rfl⟩⟩; refine ⟨_, rfl, ?_⟩))
 go_ret
 exact ⟨sB, dB⟩

/-! ### cmp_isNaN_int: function 51 -/
def cmp_isNaN_int.f (a0 : Int) : Option (Bool) := some (a0 != a0)
set_option maxHeartbeats 8000000 in
set_option maxRecDepth 100000 in
theorem cmp_isNaN_int.calls (a0 : Int) (r : Bool) (w : World) (h : cmp_isNaN_int.f a0 = some r) :
  Calls Try.prog 51 #[.int .i64 a0] w fun e w' => e = .returned (.bool r) ∧ Drawn0 w w' := by
 have H : (some (a0 != a0)) = some r := h
 clear h
 obtain rfl := Option.some.inj H
 go_enter Try.func51, Try.ntmps51
 go_wp2
 go_ret
 exact ⟨sB, dB⟩

/-! ### cmp_Compare_int: function 48 -/
def cmp_Compare_int.f (a0 : Int) (a1 : Int) : Option (Int) := (cmp_isNaN_int.f a0).bind fun t219 => ((cmp_isNaN_int.f a1).bind fun t220 => (if t219 = true then (if t220 = true then (some 0) else (some (-1))) else (if t220 = true then (some 1) else (if a0 < a1 then (some (-1)) else (if a0 > a1 then (some 1) else (some 0))))))
set_option maxHeartbeats 8000000 in
set_option maxRecDepth 100000 in
theorem cmp_Compare_int.calls (a0 : Int) (a1 : Int) (r : Int) (w : World) (h : cmp_Compare_int.f a0 a1 = some r) :
  Calls Try.prog 48 #[.int .i64 a0, .int .i64 a1] w fun e w' => e = .returned (.int .i64 r) ∧ Drawn0 w w' := by
 have H : ((cmp_isNaN_int.f a0).bind fun t219 => ((cmp_isNaN_int.f a1).bind fun t220 => (if t219 = true then (if t220 = true then (some 0) else (some (-1))) else (if t220 = true then (some 1) else (if a0 < a1 then (some (-1)) else (if a0 > a1 then (some 1) else (some 0))))))) = some r := h
 clear h
 replace H := Option.bind_eq_some_iff.mp H
 obtain ⟨t219, A30, H⟩ := H
 replace H : ((cmp_isNaN_int.f a1).bind fun t220 => (if t219 = true then (if t220 = true then (some 0) else (some (-1))) else (if t220 = true then (some 1) else (if a0 < a1 then (some (-1)) else (if a0 > a1 then (some 1) else (some 0)))))) = some r := H
 have A3 := xm A30
 clear A30
 replace H := Option.bind_eq_some_iff.mp H
 obtain ⟨t220, A40, H⟩ := H
 replace H : (if t219 = true then (if t220 = true then (some 0) else (some (-1))) else (if t220 = true then (some 1) else (if a0 < a1 then (some (-1)) else (if a0 > a1 then (some 1) else (some 0))))) = some r := H
 have A4 := xm A40
 clear A40
 by_cases c5 : t219 = true
 ·subst c5
  have H1 : (if t220 = true then (some 0) else (some (-1))) = some r := by first | (with_reducible rfl) | (rw [if_pos rfl] at H; exact H)
  clear H
  have H := H1
  clear H1
  by_cases c6 : t220 = true
  ·subst c6
   have H1 : (some 0) = some r := by first | (with_reducible rfl) | (rw [if_pos rfl] at H; exact H)
   clear H
   have H := H1
   clear H1
   obtain rfl := Option.some.inj H
   go_enter Try.func48, Try.ntmps48
   go_wp2_with (first | ((with_reducible refine gate_callee (f := 51) rfl ?_); refine goesL_ (some 8) rfl rfl Try.func51 (by kernel_rfl) rfl #[.int .i64 a0] rfl mB ?_; (with_reducible refine (cmp_isNaN_int.calls a0 true _ A3.out).mono ?_); rintro e w' ⟨rfl, ⟨nd, rfl⟩⟩; refine ⟨_, rfl, ?_⟩) | ((with_reducible refine gate_callee (f := 51) rfl ?_); refine goesL_ (some 10) rfl rfl Try.func51 (by kernel_rfl) rfl #[.int .i64 a1] rfl mB ?_; (with_reducible refine (cmp_isNaN_int.calls a1 true _ A4.out).mono ?_); rintro e w' ⟨rfl, ⟨nd, rfl⟩⟩; refine ⟨_, rfl, ?_⟩))
   go_ret
   exact ⟨sB, dB⟩
  ·replace c6 := Bool.eq_false_iff.mpr c6
   subst c6
   have H1 : (some (-1)) = some r := by first | (with_reducible rfl) | (rw [if_neg (show ¬ (false = true) by decide)] at H; exact H)
   clear H
   have H := H1
   clear H1
   obtain rfl := Option.some.inj H
   go_enter Try.func48, Try.ntmps48
   go_wp2_with (first | ((with_reducible refine gate_callee (f := 51) rfl ?_); refine goesL_ (some 8) rfl rfl Try.func51 (by kernel_rfl) rfl #[.int .i64 a0] rfl mB ?_; (with_reducible refine (cmp_isNaN_int.calls a0 true _ A3.out).mono ?_); rintro e w' ⟨rfl, ⟨nd, rfl⟩⟩; refine ⟨_, rfl, ?_⟩) | ((with_reducible refine gate_callee (f := 51) rfl ?_); refine goesL_ (some 10) rfl rfl Try.func51 (by kernel_rfl) rfl #[.int .i64 a1] rfl mB ?_; (with_reducible refine (cmp_isNaN_int.calls a1 false _ A4.out).mono ?_); rintro e w' ⟨rfl, ⟨nd, rfl⟩⟩; refine ⟨_, rfl, ?_⟩))
   go_ret
   exact ⟨sB, dB⟩
 ·replace c5 := Bool.eq_false_iff.mpr c5
  subst c5
  have H1 : (if t220 = true then (some 1) else (if a0 < a1 then (some (-1)) else (if a0 > a1 then (some 1) else (some 0)))) = some r := by first | (with_reducible rfl) | (rw [if_neg (show ¬ (false = true) by decide)] at H; exact H)
  clear H
  have H := H1
  clear H1
  by_cases c7 : t220 = true
  ·subst c7
   have H1 : (some 1) = some r := by first | (with_reducible rfl) | (rw [if_pos rfl] at H; exact H)
   clear H
   have H := H1
   clear H1
   obtain rfl := Option.some.inj H
   go_enter Try.func48, Try.ntmps48
   go_wp2_with (first | ((with_reducible refine gate_callee (f := 51) rfl ?_); refine goesL_ (some 8) rfl rfl Try.func51 (by kernel_rfl) rfl #[.int .i64 a0] rfl mB ?_; (with_reducible refine (cmp_isNaN_int.calls a0 false _ A3.out).mono ?_); rintro e w' ⟨rfl, ⟨nd, rfl⟩⟩; refine ⟨_, rfl, ?_⟩) | ((with_reducible refine gate_callee (f := 51) rfl ?_); refine goesL_ (some 10) rfl rfl Try.func51 (by kernel_rfl) rfl #[.int .i64 a1] rfl mB ?_; (with_reducible refine (cmp_isNaN_int.calls a1 true _ A4.out).mono ?_); rintro e w' ⟨rfl, ⟨nd, rfl⟩⟩; refine ⟨_, rfl, ?_⟩))
   go_ret
   exact ⟨sB, dB⟩
  ·replace c7 := Bool.eq_false_iff.mpr c7
   subst c7
   have H1 : (if a0 < a1 then (some (-1)) else (if a0 > a1 then (some 1) else (some 0))) = some r := by first | (with_reducible rfl) | (rw [if_neg (show ¬ (false = true) by decide)] at H; exact H)
   clear H
   have H := H1
   clear H1
   by_cases c8 : a0 < a1
   ·rw [if_pos c8] at H
    have c8b0 : decide (a0 < a1) = true := decide_eq_true c8
    clear c8
    obtain rfl := Option.some.inj H
    go_enter Try.func48, Try.ntmps48
    go_wp2_with (first | ((with_reducible refine gate_callee (f := 51) rfl ?_); refine goesL_ (some 8) rfl rfl Try.func51 (by kernel_rfl) rfl #[.int .i64 a0] rfl mB ?_; (with_reducible refine (cmp_isNaN_int.calls a0 false _ A3.out).mono ?_); rintro e w' ⟨rfl, ⟨nd, rfl⟩⟩; refine ⟨_, rfl, ?_⟩) | ((with_reducible refine gate_callee (f := 51) rfl ?_); refine goesL_ (some 10) rfl rfl Try.func51 (by kernel_rfl) rfl #[.int .i64 a1] rfl mB ?_; (with_reducible refine (cmp_isNaN_int.calls a1 false _ A4.out).mono ?_); rintro e w' ⟨rfl, ⟨nd, rfl⟩⟩; refine ⟨_, rfl, ?_⟩))
    go_ret
    exact ⟨sB, dB⟩
   ·rw [if_neg c8] at H
    have c8b0 : decide (a0 < a1) = false := decide_eq_false c8
    clear c8
    by_cases c9 : a0 > a1
    ·rw [if_pos c9] at H
     have c9b0 : decide (a1 < a0) = true := decide_eq_true c9
     clear c9
     obtain rfl := Option.some.inj H
     go_enter Try.func48, Try.ntmps48
     go_wp2_with (first | ((with_reducible refine gate_callee (f := 51) rfl ?_); refine goesL_ (some 8) rfl rfl Try.func51 (by kernel_rfl) rfl #[.int .i64 a0] rfl mB ?_; (with_reducible refine (cmp_isNaN_int.calls a0 false _ A3.out).mono ?_); rintro e w' ⟨rfl, ⟨nd, rfl⟩⟩; refine ⟨_, rfl, ?_⟩) | ((with_reducible refine gate_callee (f := 51) rfl ?_); refine goesL_ (some 10) rfl rfl Try.func51 (by kernel_rfl) rfl #[.int .i64 a1] rfl mB ?_; (with_reducible refine (cmp_isNaN_int.calls a1 false _ A4.out).mono ?_); rintro e w' ⟨rfl, ⟨nd, rfl⟩⟩; refine ⟨_, rfl, ?_⟩))
     go_ret
     exact ⟨sB, dB⟩
    ·rw [if_neg c9] at H
     have c9b0 : decide (a1 < a0) = false := decide_eq_false c9
     clear c9
     obtain rfl := Option.some.inj H
     go_enter Try.func48, Try.ntmps48
     go_wp2_with (first | ((with_reducible refine gate_callee (f := 51) rfl ?_); refine goesL_ (some 8) rfl rfl Try.func51 (by kernel_rfl) rfl #[.int .i64 a0] rfl mB ?_; (with_reducible refine (cmp_isNaN_int.calls a0 false _ A3.out).mono ?_); rintro e w' ⟨rfl, ⟨nd, rfl⟩⟩; refine ⟨_, rfl, ?_⟩) | ((with_reducible refine gate_callee (f := 51) rfl ?_); refine goesL_ (some 10) rfl rfl Try.func51 (by kernel_rfl) rfl #[.int .i64 a1] rfl mB ?_; (with_reducible refine (cmp_isNaN_int.calls a1 false _ A4.out).mono ?_); rintro e w' ⟨rfl, ⟨nd, rfl⟩⟩; refine ⟨_, rfl, ?_⟩))
     go_ret
     exact ⟨sB, dB⟩

/-! ### slices_Compare_Lint_int: function 43 -/
def slices_Compare_Lint_int.l0 : Nat → List Int → List Int → List Int → Int → Int → Option (Int)
 | 0, _, _, _, _, _ => none
 | k + 1, x0, x1, x9, x10, x11 => if x11 < x10 then (if 0 ≤ x11 then (if x11 < (x9.length : Int) then (if x11 ≥ (x1.length : Int) then (some 1) else (if x11 < (x1.length : Int) then ((cmp_Compare_int.f (rd x9 x11) (rd x1 x11)).bind fun t223 => (if t223 = 0 then (slices_Compare_Lint_int.l0 k x0 x1 x9 x10 (wrap64 (x11 + 1))) else (some t223))) else (none))) else (none)) else (none)) else (if (x0.length : Int) < (x1.length : Int) then (some (-1)) else (some 0))
def slices_Compare_Lint_int.f (k : Nat) (l0 : List Int) (l1 : List Int) : Option (Int) := slices_Compare_Lint_int.l0 k l0 l1 l0 (l0.length : Int) 0
theorem slices_Compare_Lint_int.mono_l : ∀ k, (∀ y0 y1 y2 y3 y4, LeO (slices_Compare_Lint_int.l0 k y0 y1 y2 y3 y4) (slices_Compare_Lint_int.l0 (k + 1) y0 y1 y2 y3 y4))
 | 0 => fun _ _ _ _ _ r h => by simp [slices_Compare_Lint_int.l0] at h
 | k + 1 => by
  have ih0 := slices_Compare_Lint_int.mono_l k
  ·intro y0 y1 y2 y3 y4
   unfold slices_Compare_Lint_int.l0
   repeat' first
   | (with_reducible exact ih0 _ _ _ _ _)
   | (with_reducible exact LeO.refl _)
   | (with_reducible exact LeO.none _)
   | (with_reducible refine LeO.ite ?_ ?_)
   | (with_reducible refine LeO.bind ?_ (fun _ => ?_))
   | exact ih0 _ _ _ _ _
   | exact LeO.none _
   | refine LeO.ite ?_ ?_
   | refine LeO.bind ?_ (fun _ => ?_)
theorem slices_Compare_Lint_int.mono : ∀ a0 a1 k, LeO (slices_Compare_Lint_int.f k a0 a1) (slices_Compare_Lint_int.f (k + 1) a0 a1) := by
 intro a0 a1 k
 have ih0 := slices_Compare_Lint_int.mono_l k
 unfold slices_Compare_Lint_int.f
 repeat' first
   | (with_reducible exact ih0 _ _ _ _ _)
   | (with_reducible exact LeO.refl _)
   | (with_reducible exact LeO.none _)
   | (with_reducible refine LeO.ite ?_ ?_)
   | (with_reducible refine LeO.bind ?_ (fun _ => ?_))
   | exact ih0 _ _ _ _ _
   | exact LeO.none _
   | refine LeO.ite ?_ ?_
   | refine LeO.bind ?_ (fun _ => ?_)
set_option maxHeartbeats 8000000 in
set_option maxRecDepth 100000 in
theorem slices_Compare_Lint_int.calls (k : Nat) (A0 : Option Addr) (c0 : Nat) (l0 : List Int) (A1 : Option Addr) (c1 : Nat) (l1 : List Int) (r : Int) (w : World) (hr0 : Kd.C (Kd.int .i64) w A0 l0.length l0) (hc0 : l0.length ≤ c0) (hr1 : Kd.C (Kd.int .i64) w A1 l1.length l1) (hc1 : l1.length ≤ c1) (h : slices_Compare_Lint_int.f k l0 l1 = some r) :
  Calls Try.prog 43 #[.slice A0 l0.length c0, .slice A1 l1.length c1] w fun e w' => e = .returned (.int .i64 r) ∧ Drawn0 w w' := by
 have HR0 := xm hr0
 have HC0 := xm hc0
 clear hr0 hc0
 have HR1 := xm hr1
 have HC1 := xm hc1
 clear hr1 hc1
 have H : (slices_Compare_Lint_int.l0 k l0 l1 l0 (l0.length : Int) 0) = some r := h
 clear h
 have H' := xm H
 clear H
 go_enter Try.func43, Try.ntmps43
 go_wp2
 go_loopg [11] k (fun kq v11 w' => ∃ (x11_1 : Int), v11 = .int .i64 x11_1 ∧ Aside0 (slices_Compare_Lint_int.l0 kq l0 l1 l0 (l0.length : Int) x11_1 = some r) ∧ Aside0 (kq ≤ k) ∧ Drawn0 w w')
 case atStart => exact ⟨(0), sB, H', ⟨Nat.le_refl _⟩, by repeat (first | exact Drawn0.refl _ | apply Drawn0.step)⟩
 case round =>
  clear H'
  try clear c1
  try clear p2
  obtain ⟨x11_1, rfl, HA, HK1, ⟨m1, rfl⟩⟩ := hrel
  cases gk with
  | zero => exact absurd HA.out (by simp [slices_Compare_Lint_int.l0])
  | succ k1 =>
   have H := HA.out
   clear HA
   simp only [slices_Compare_Lint_int.l0] at H
   by_cases c3 : x11_1 < (l0.length : Int)
   ·rw [if_pos c3] at H
    have c3b0 : decide (x11_1 < (l0.length : Int)) = true := decide_eq_true c3
    clear c3
    by_cases c4 : 0 ≤ x11_1
    ·rw [if_pos c4] at H
     have c4b0 : decide (0 ≤ x11_1) = true := decide_eq_true c4
     clear c4
     by_cases c5 : x11_1 < (l0.length : Int)
     ·rw [if_pos c5] at H
      have c5b0 : decide (x11_1 < (l0.length : Int)) = true := decide_eq_true c5
      clear c5
      by_cases c6 : x11_1 ≥ (l1.length : Int)
      ·rw [if_pos c6] at H
       have c6b0 : decide ((l1.length : Int) ≤ x11_1) = true := decide_eq_true c6
       clear c6
       obtain rfl := Option.some.inj H
       have p221 : 0 ≤ (x11_1 : Int) := of_decide_eq_true aB
       have q221 : x11_1 < (l0.length : Int) := of_decide_eq_true aB
       obtain ⟨ad221, e221, hx221_0⟩ := Kd.at_int HR0.out x11_1 p221 q221
       cases e221
       replace p221 := eq_true p221
       replace q221 := eq_true q221
       go_wp2
       go_ret
       exact ⟨sB, dB⟩
      ·rw [if_neg c6] at H
       have c6b0 : decide ((l1.length : Int) ≤ x11_1) = false := decide_eq_false c6
       clear c6
       by_cases c7 : x11_1 < (l1.length : Int)
       ·rw [if_pos c7] at H
        have c7b0 : decide (x11_1 < (l1.length : Int)) = true := decide_eq_true c7
        clear c7
        replace H := Option.bind_eq_some_iff.mp H
        obtain ⟨t223, A80, H⟩ := H
        replace H : (if t223 = 0 then (slices_Compare_Lint_int.l0 k1 l0 l1 l0 (l0.length : Int) (wrap64 (x11_1 + 1))) else (some t223)) = some r := H
        have A8 := xm A80
        clear A80
        by_cases c9 : t223 = 0
        ·rw [if_pos c9] at H
         have c9b0 : (t223 == 0) = true := beq_iff_eq.mpr c9
         have c9b1 : (t223 != 0) = false := bne_eq_false_iff_eq.mpr c9
         clear c9
         have H' := xm H
         clear H
         have p221 : 0 ≤ (x11_1 : Int) := of_decide_eq_true aB
         have q221 : x11_1 < (l0.length : Int) := of_decide_eq_true aB
         obtain ⟨ad221, e221, hx221_0⟩ := Kd.at_int HR0.out x11_1 p221 q221
         cases e221
         replace p221 := eq_true p221
         replace q221 := eq_true q221
         have p222 : 0 ≤ (x11_1 : Int) := of_decide_eq_true aB
         have q222 : x11_1 < (l1.length : Int) := of_decide_eq_true aB
         obtain ⟨ad222, e222, hx222_0⟩ := Kd.at_int HR1.out x11_1 p222 q222
         cases e222
         replace p222 := eq_true p222
         replace q222 := eq_true q222
         go_wp2_with (first | ((with_reducible refine gate_callee (f := 48) rfl ?_); refine goesL_ (some 26) rfl rfl Try.func48 (by kernel_rfl) rfl #[.int .i64 (rd l0 x11_1), .int .i64 (rd l1 x11_1)] rfl mB ?_; (with_reducible refine (cmp_Compare_int.calls (rd l0 x11_1) (rd l1 x11_1) t223 _ A8.out).mono ?_); rintro e w' ⟨rfl, ⟨nd, rfl⟩⟩; refine ⟨_, rfl, ?_⟩))
         go_roundg k1
         case measure => have := HK1.out; omega
         case rel => exact ⟨(wrap64 (x11_1 + 1)), sB, H', ⟨by have := HK1.out; omega⟩, by repeat (first | exact Drawn0.refl _ | apply Drawn0.step)⟩
        ·rw [if_neg c9] at H
         have c9b0 : (t223 == 0) = false := beq_eq_false_iff_ne.mpr c9
         have c9b1 : (t223 != 0) = true := bne_iff_ne.mpr c9
         obtain rfl := Option.some.inj H
         have p221 : 0 ≤ (x11_1 : Int) := of_decide_eq_true aB
         have q221 : x11_1 < (l0.length : Int) := of_decide_eq_true aB
         obtain ⟨ad221, e221, hx221_0⟩ := Kd.at_int HR0.out x11_1 p221 q221
         cases e221
         replace p221 := eq_true p221
         replace q221 := eq_true q221
         have p222 : 0 ≤ (x11_1 : Int) := of_decide_eq_true aB
         have q222 : x11_1 < (l1.length : Int) := of_decide_eq_true aB
         obtain ⟨ad222, e222, hx222_0⟩ := Kd.at_int HR1.out x11_1 p222 q222
         cases e222
         replace p222 := eq_true p222
         replace q222 := eq_true q222
         go_wp2_with (first | ((with_reducible refine gate_callee (f := 48) rfl ?_); refine goesL_ (some 26) rfl rfl Try.func48 (by kernel_rfl) rfl #[.int .i64 (rd l0 x11_1), .int .i64 (rd l1 x11_1)] rfl mB ?_; (with_reducible refine (cmp_Compare_int.calls (rd l0 x11_1) (rd l1 x11_1) t223 _ A8.out).mono ?_); rintro e w' ⟨rfl, ⟨nd, rfl⟩⟩; refine ⟨_, rfl, ?_⟩))
         go_ret
         exact ⟨sB, dB⟩
       ·rw [if_neg c7] at H
        exact absurd H (by simp)
     ·rw [if_neg c5] at H
      exact absurd H (by simp)
    ·rw [if_neg c4] at H
     exact absurd H (by simp)
   ·rw [if_neg c3] at H
    have c3b0 : decide (x11_1 < (l0.length : Int)) = false := decide_eq_false c3
    clear c3
    by_cases c10 : (l0.length : Int) < (l1.length : Int)
    ·rw [if_pos c10] at H
     have c10b0 : decide ((l0.length : Int) < (l1.length : Int)) = true := decide_eq_true c10
     have c10b1 : decide (l0.length < l1.length) = true := decide_eq_true (Int.ofNat_lt.mp c10)
     clear c10
     obtain rfl := Option.some.inj H
     go_wp2
     go_ret
     exact ⟨sB, dB⟩
    ·rw [if_neg c10] at H
     have c10b0 : decide ((l0.length : Int) < (l1.length : Int)) = false := decide_eq_false c10
     have c10b1 : decide (l0.length < l1.length) = false := decide_eq_false (fun h => c10 (Int.ofNat_lt.mpr h))
     clear c10
     obtain rfl := Option.some.inj H
     go_wp2
     go_ret
     exact ⟨sB, dB⟩

/-! ### impl_compareRows: function 36 -/
def impl_compareRows.f (k : Nat) (l0_0 : List Int) (l1_0 : List Int) : Option (Int) := (slices_Compare_Lint_int.f k l0_0 l1_0).bind fun t226 => (some t226)
theorem impl_compareRows.mono : ∀ a0 a1 k, LeO (impl_compareRows.f k a0 a1) (impl_compareRows.f (k + 1) a0 a1) := by
 intro a0 a1 k
 unfold impl_compareRows.f
 repeat' first
   | (with_reducible exact slices_Compare_Lint_int.mono _ _ _)
   | (with_reducible exact LeO.refl _)
   | (with_reducible exact LeO.none _)
   | (with_reducible refine LeO.ite ?_ ?_)
   | (with_reducible refine LeO.bind ?_ (fun _ => ?_))
   | exact slices_Compare_Lint_int.mono _ _ _
   | exact LeO.none _
   | refine LeO.ite ?_ ?_
   | refine LeO.bind ?_ (fun _ => ?_)
set_option maxHeartbeats 8000000 in
set_option maxRecDepth 100000 in
theorem impl_compareRows.calls (k : Nat) (A0_0 : Option Addr) (c0_0 : Nat) (l0_0 : List Int) (A1_0 : Option Addr) (c1_0 : Nat) (l1_0 : List Int) (r : Int) (w : World) (hr0_0 : Kd.C (Kd.int .i64) w A0_0 l0_0.length l0_0) (hc0_0 : l0_0.length ≤ c0_0) (hr1_0 : Kd.C (Kd.int .i64) w A1_0 l1_0.length l1_0) (hc1_0 : l1_0.length ≤ c1_0) (h : impl_compareRows.f k l0_0 l1_0 = some r) :
  Calls Try.prog 36 #[.agg #[.slice A0_0 l0_0.length c0_0], .agg #[.slice A1_0 l1_0.length c1_0]] w fun e w' => e = .returned (.int .i64 r) ∧ Below w.heap.size w w' := by
 have hu50 := Try.underlying50
 have HR0_0 := xm hr0_0
 have HC0_0 := xm hc0_0
 clear hr0_0 hc0_0
 have HR1_0 := xm hr1_0
 have HC1_0 := xm hc1_0
 clear hr1_0 hc1_0
 have HB := xm (Below.refl w.heap.size w)
 have H : ((slices_Compare_Lint_int.f k l0_0 l1_0).bind fun t226 => (some t226)) = some r := h
 clear h
 replace H := Option.bind_eq_some_iff.mp H
 obtain ⟨t226, A30, H⟩ := H
 replace H : (some t226) = some r := H
 have A3 := xm A30
 clear A30
 obtain rfl := Option.some.inj H
 go_enter Try.func36, Try.ntmps36
 go_wp2_with (first | ((with_reducible refine gate_dst (N := 2) rfl ?_); refine box_event ?hg (N := 2) ?hd (cs := #[.slice A0_0 l0_0.length c0_0]) (t := 50) ?hr ?_; (case hd => rfl); (case hg => rfl); (case hr => exact zB); intro gb224 hg w4 hbox hb; have n0_ := xm (below_step bB hb); have n1_ := xm (hbox); have n2_ := xm ((by rw [hg]; exact (xz bB) : w.heap.size ≤ gb224)); have n3_ := xm ((by rw [hg]; exact (xz bB) : w.heap.size ≤ gb224)); revert n0_ n1_ n2_ n3_; clear HB; intro HB BK224 GW224 GE224; clear hb hbox hg) | ((with_reducible refine gate_dst (N := 3) rfl ?_); refine box_event ?hg (N := 3) ?hd (cs := #[.slice A1_0 l1_0.length c1_0]) (t := 50) ?hr ?_; (case hd => rfl); (case hg => rfl); (case hr => exact zB); intro gb225 hg w5 hbox hb; have n0_ := xm (blk_below (kB BK224) hb); have n1_ := xm (below_step bG hb); have n2_ := xm (hbox); have n3_ := xm ((by rw [hg]; exact (xz bG) : w.heap.size ≤ gb225)); have n4_ := xm ((by rw [hg]; exact (xz bG) : w.heap.size ≤ gb225)); have n5_ := xm ((by rw [hg]; exact Nat.ne_of_lt (blk_lt (kB BK224)) : gb224 ≠ gb225)); have n6_ := xm ((by rw [hg]; exact Nat.ne_of_gt (blk_lt (kB BK224)) : gb225 ≠ gb224)); revert n0_ n1_ n2_ n3_ n4_ n5_ n6_; clear BK224 HB; intro BK224 HB BK225 GW225 GE225 NB224_225 NB225_224; clear hb hbox hg; have hnb6 := NB224_225.out; have hnc6 := NB225_224.out; obtain ⟨hcz7_0, hfz7_0⟩ := cz1 BK224.out; obtain ⟨hcz8_0, hfz8_0⟩ := cz1 BK225.out) | ((with_reducible refine gate_callee (f := 43) rfl ?_); refine goesL_ (some 9) rfl rfl Try.func43 (by kernel_rfl) rfl #[.slice A0_0 l0_0.length c0_0, .slice A1_0 l1_0.length c1_0] rfl mB ?_; (with_reducible refine (slices_Compare_Lint_int.calls k _ _ l0_0 _ _ l1_0 t226 _ ?side1 ?side2 ?side3 ?side4 A3.out).mono ?_); (case side1 => exact cB (Kd.C_below HR0_0.out HB.out)); (case side2 => exact HC0_0.out); (case side3 => exact cB (Kd.C_below HR1_0.out HB.out)); (case side4 => exact HC1_0.out); rintro e w' ⟨rfl, ⟨nd, rfl⟩⟩; refine ⟨_, rfl, ?_⟩))
 go_ret
 exact ⟨eB, bG⟩

end Go.Proofs.Ytmelechhnimlnac.G
