/- Written by a program of this claim's own, out of the translation: functions of the program as plain functions, and that the calls answer as these. No conditions. -/
import Derived.Test.YtaddemalepndfahG0
import Derived.Test.YtaddemalepndfahG8
import Derived.Test.YtaddemalepndfahG9
namespace Go.Proofs.Ytaddemalepndfah.G
open Go.RowKit Go.Proofs.Ytaddemalepndfah.X Go.Proofs.YtaddemalepndfahW.PrintWords Go.Proofs.YtaddemalepndfahW.PrintLast Go.Proofs.YtaddemalepndfahW.PrintMore
attribute [local go_sem] max2_int min2_int max_two min_two max_three min_three max_four min_four   -- for this text's walks alone
set_option linter.unusedVariables false
set_option linter.unusedSimpArgs false

/-! ### impl_GoodDepends_1: function 53 -/
def impl_GoodDepends_1.f (k : Nat) (l0_0 : List Int) (l0_1 : List Int) (a1 : Int) : Option (Bool) := (impl_isDepend.f k l0_0 l0_1 a1).bind fun t281 => (some t281)
theorem impl_GoodDepends_1.mono : ∀ a0 a1 a2 k, LeO (impl_GoodDepends_1.f k a0 a1 a2) (impl_GoodDepends_1.f (k + 1) a0 a1 a2) := by
 intro a0 a1 a2 k
 unfold impl_GoodDepends_1.f
 repeat' first
   | (with_reducible exact impl_isDepend.mono _ _ _ _)
   | (with_reducible exact LeO.refl _)
   | (with_reducible exact LeO.none _)
   | (with_reducible refine LeO.ite ?_ ?_)
   | (with_reducible refine LeO.bind ?_ (fun _ => ?_))
   | exact impl_isDepend.mono _ _ _ _
   | exact LeO.none _
   | refine LeO.ite ?_ ?_
   | refine LeO.bind ?_ (fun _ => ?_)
set_option maxHeartbeats 8000000 in
set_option maxRecDepth 100000 in
theorem impl_GoodDepends_1.calls (k : Nat) (A0_0 : Option Addr) (c0_0 : Nat) (l0_0 : List Int) (A0_1 : Option Addr) (c0_1 : Nat) (l0_1 : List Int) (gc1 : Nat) (a1 : Int) (r : Bool) (w : World) (hr0_0 : Kd.C (Kd.int .i64) w A0_0 l0_0.length l0_0) (hc0_0 : l0_0.length ≤ c0_0) (hr0_1 : Kd.C (Kd.int .i64) w A0_1 l0_1.length l0_1) (hc0_1 : l0_1.length ≤ c0_1) (hbk1 : w.heap[gc1]? = some (.cells #[.int .i64 a1] 3 (0, 0))) (h : impl_GoodDepends_1.f k l0_0 l0_1 a1 = some r) :
  Calls Try.prog 53 #[.agg #[.slice A0_0 l0_0.length c0_0, .slice A0_1 l0_1.length c0_1], .pointer (some ⟨gc1, 0, none⟩)] w fun e w' => e = .returned (.bool r) ∧ Below w.heap.size w w' := by
 have hu35 := Try.underlying35
 have HR0_0 := xm hr0_0
 have HC0_0 := xm hc0_0
 clear hr0_0 hc0_0
 have HR0_1 := xm hr0_1
 have HC0_1 := xm hc0_1
 clear hr0_1 hc0_1
 have BK279 := xm hbk1
 clear hbk1
 have HB := xm (Below.refl w.heap.size w)
 have H : ((impl_isDepend.f k l0_0 l0_1 a1).bind fun t281 => (some t281)) = some r := h
 clear h
 replace H := Option.bind_eq_some_iff.mp H
 obtain ⟨t281, A30, H⟩ := H
 replace H : (some t281) = some r := H
 have A3 := xm A30
 clear A30
 obtain rfl := Option.some.inj H
 go_enter Try.func53, Try.ntmps53
 go_wp2_with (first | ((with_reducible refine gate_dst (N := 2) rfl ?_); refine box_event ?hg (N := 2) ?hd (cs := #[.slice A0_0 l0_0.length c0_0, .slice A0_1 l0_1.length c0_1]) (t := 35) ?hr ?_; (case hd => rfl); (case hg => rfl); (case hr => exact zB); intro gb280 hg w4 hbox hb; have n0_ := xm (blk_below (kB BK279) hb); have n1_ := xm (below_step bG hb); have n2_ := xm (hbox); have n3_ := xm ((by rw [hg]; exact (xz bG) : w.heap.size ≤ gb280)); have n4_ := xm ((by rw [hg]; exact (xz bG) : w.heap.size ≤ gb280)); have n5_ := xm ((by rw [hg]; exact Nat.ne_of_lt (blk_lt (kB BK279)) : gc1 ≠ gb280)); have n6_ := xm ((by rw [hg]; exact Nat.ne_of_gt (blk_lt (kB BK279)) : gb280 ≠ gc1)); revert n0_ n1_ n2_ n3_ n4_ n5_ n6_; clear BK279 HB; intro BK279 HB BK280 GW280 GE280 NB279_280 NB280_279; clear hb hbox hg; have hnb5 := NB280_279.out; have hnc5 := NB279_280.out; obtain ⟨hcz6_0, hcz6_1, hfz6_0, hfz6_1⟩ := cz2 BK280.out; obtain ⟨hcz7_0, hfz7_0⟩ := cz1 BK279.out) | ((with_reducible refine gate_callee (f := 41) rfl ?_); refine goesL_ (some 6) rfl rfl Try.func41 (by kernel_rfl) rfl #[.agg #[.slice A0_0 l0_0.length c0_0, .slice A0_1 l0_1.length c0_1], .int .i64 a1] rfl mB ?_; (with_reducible refine (impl_isDepend.calls k _ _ l0_0 _ _ l0_1 a1 t281 _ ?side1 ?side2 ?side3 ?side4 A3.out).mono ?_); (case side1 => exact cB (Kd.C_below HR0_0.out HB.out)); (case side2 => exact HC0_0.out); (case side3 => exact cB (Kd.C_below HR0_1.out HB.out)); (case side4 => exact HC0_1.out); rintro e w8 ⟨rfl, hb⟩; refine ⟨_, rfl, ?_⟩; have n0_ := xm (blk_below (kB BK279) hb); have n1_ := xm (blk_below (kB BK280) hb); have n2_ := xm (below_step bG hb); revert n0_ n1_ n2_; clear BK279 BK280 HB; intro BK279 BK280 HB; (try clear hb)))
 go_ret
 exact ⟨eB, bG⟩

/-! ### impl_areAll_impl_Depend__impl_GoodDepends_1: function 100000 -/
theorem enters53 : ∀ args w, (callFunc 53 args).run Try.prog w = .ok (.enter 53 args) w := enters_of Try.func53 (by kernel_rfl) rfl
def impl_areAll_impl_Depend__impl_GoodDepends_1.f (k : Nat) (l0 : List S35) (a1 : Int) : Option Bool := allO (fun x => impl_GoodDepends_1.f k x.f0 x.f1 a1) l0
theorem impl_areAll_impl_Depend__impl_GoodDepends_1.mono : ∀ a0 y0 k, LeO (impl_areAll_impl_Depend__impl_GoodDepends_1.f k a0 y0) (impl_areAll_impl_Depend__impl_GoodDepends_1.f (k + 1) a0 y0) := fun a0 y0 k => allO_mono (fun x => impl_GoodDepends_1.mono _ _ _ k) a0
set_option maxHeartbeats 8000000 in
set_option maxRecDepth 100000 in
theorem impl_areAll_impl_Depend__impl_GoodDepends_1.calls (k : Nat) (A0 : Option Addr) (c0 : Nat) (l0 : List S35) (gc1 : Nat) (a1 : Int) (r : Bool) (w : World) (hr0 : Kd.C k35 w A0 l0.length l0) (hc0 : l0.length ≤ c0) (hbk1 : w.heap[gc1]? = some (.cells #[.int .i64 a1] 3 (0, 0))) (h : impl_areAll_impl_Depend__impl_GoodDepends_1.f k l0 a1 = some r) :
  Calls Try.prog 52 #[.slice A0 l0.length c0, .func (.func 53) #[] #[.pointer (some ⟨gc1, 0, none⟩)]] w fun e w' => e = .returned (.bool r) ∧ Below w.heap.size w w' := by
 refine impl_areAll_impl_Depend.any 53 #[.pointer (some ⟨gc1, 0, none⟩)] enters53 (fun x => impl_GoodDepends_1.f k x.f0 x.f1 a1) A0 c0 l0 r w hr0 hc0 ?_ h
 intro W x cs b hW hK hb
 obtain ⟨A_0, c_0, A_1, c_1, rfl, hl0, hi0, hl1, hi1⟩ := k35_open hK
 simp only [encOne, encAgg, List.headD_cons, app0, app1, app2, app3]
 refine (impl_GoodDepends_1.calls k _ _ x.f0 _ _ x.f1 gc1 a1 b W hi0 hl0 hi1 hl1 (blk_below hW hbk1) hb).mono ?_
 rintro e w' ⟨he, hd⟩
 exact ⟨he, hd⟩

/-! ### impl_GoodDepends: function 40 -/
def impl_GoodDepends.f (k : Nat) (l0 : List (S35)) (a1 : Int) : Option (Bool) := (impl_within.f a1 1 6).bind fun t283 => (if t283 = true then (if (l0.length : Int) ≤ 10 then ((impl_areAll_impl_Depend__impl_GoodDepends_1.f k l0 a1).bind fun t284 => (some t284)) else (some false)) else (some false))
theorem impl_GoodDepends.mono : ∀ a0 a1 k, LeO (impl_GoodDepends.f k a0 a1) (impl_GoodDepends.f (k + 1) a0 a1) := by
 intro a0 a1 k
 unfold impl_GoodDepends.f
 repeat' first
   | (with_reducible exact impl_areAll_impl_Depend__impl_GoodDepends_1.mono _ _ _)
   | (with_reducible exact LeO.refl _)
   | (with_reducible exact LeO.none _)
   | (with_reducible refine LeO.ite ?_ ?_)
   | (with_reducible refine LeO.bind ?_ (fun _ => ?_))
   | exact impl_areAll_impl_Depend__impl_GoodDepends_1.mono _ _ _
   | exact LeO.none _
   | refine LeO.ite ?_ ?_
   | refine LeO.bind ?_ (fun _ => ?_)
set_option maxHeartbeats 8000000 in
set_option maxRecDepth 100000 in
theorem impl_GoodDepends.calls (k : Nat) (A0 : Option Addr) (c0 : Nat) (l0 : List (S35)) (a1 : Int) (r : Bool) (w : World) (hr0 : Kd.C k35 w A0 l0.length l0) (hc0 : l0.length ≤ c0) (h : impl_GoodDepends.f k l0 a1 = some r) :
  Calls Try.prog 40 #[.slice A0 l0.length c0, .int .i64 a1] w fun e w' => e = .returned (.bool r) ∧ Below w.heap.size w w' := by
 have HR0 := xm hr0
 have HC0 := xm hc0
 clear hr0 hc0
 have HB := xm (Below.refl w.heap.size w)
 have H : ((impl_within.f a1 1 6).bind fun t283 => (if t283 = true then (if (l0.length : Int) ≤ 10 then ((impl_areAll_impl_Depend__impl_GoodDepends_1.f k l0 a1).bind fun t284 => (some t284)) else (some false)) else (some false))) = some r := h
 clear h
 replace H := Option.bind_eq_some_iff.mp H
 obtain ⟨t283, A30, H⟩ := H
 replace H : (if t283 = true then (if (l0.length : Int) ≤ 10 then ((impl_areAll_impl_Depend__impl_GoodDepends_1.f k l0 a1).bind fun t284 => (some t284)) else (some false)) else (some false)) = some r := H
 have A3 := xm A30
 clear A30
 by_cases c4 : t283 = true
 ·subst c4
  have H1 : (if (l0.length : Int) ≤ 10 then ((impl_areAll_impl_Depend__impl_GoodDepends_1.f k l0 a1).bind fun t284 => (some t284)) else (some false)) = some r := by first | (with_reducible rfl) | (rw [if_pos rfl] at H; exact H)
  clear H
  have H := H1
  clear H1
  by_cases c5 : (l0.length : Int) ≤ 10
  ·rw [if_pos c5] at H
   have c5b0 : decide ((l0.length : Int) ≤ 10) = true := decide_eq_true c5
   have c5b1 : decide (l0.length ≤ 10) = true := decide_eq_true (by omega)
   clear c5
   replace H := Option.bind_eq_some_iff.mp H
   obtain ⟨t284, A60, H⟩ := H
   replace H : (some t284) = some r := H
   have A6 := xm A60
   clear A60
   obtain rfl := Option.some.inj H
   go_enter Try.func40, Try.ntmps40
   go_wp2_with (first | ((with_reducible refine gate_dst (N := 3) rfl ?_); (try (refine gate_guard (by rfl) ?_; dsimp only)); refine box_event ?hg (N := 3) ?hd (cs := #[.int .i64 a1]) (t := 3) ?hr ?_; (case hd => rfl); (case hg => rfl); (case hr => exact zB); intro gb282 hg w7 hbox hb; have n0_ := xm (below_step bB hb); have n1_ := xm (hbox); have n2_ := xm ((by rw [hg]; exact (xz bB) : w.heap.size ≤ gb282)); have n3_ := xm ((by rw [hg]; exact (xz bB) : w.heap.size ≤ gb282)); revert n0_ n1_ n2_ n3_; clear HB; intro HB BK282 GW282 GE282; clear hb hbox hg; obtain ⟨hcz8_0, hfz8_0⟩ := cz1 BK282.out) | ((with_reducible refine gate_callee (f := 51) rfl ?_); refine goesL_ (some 6) rfl rfl Try.func51 (by kernel_rfl) rfl #[.int .i64 a1, .int .i64 1, .int .i64 6] rfl mB ?_; (with_reducible refine (impl_within.calls a1 1 6 true _ A3.out).mono ?_); rintro e w' ⟨rfl, ⟨nd, rfl⟩⟩; refine ⟨_, rfl, ?_⟩) | (go_at_call 52; (with_reducible refine (impl_areAll_impl_Depend__impl_GoodDepends_1.calls k _ _ l0 gb282 a1 t284 _ ?side1 ?side2 ?side3 A6.out).mono ?_); (case side1 => repeat (first | exact (Kd.C_below HR0.out bG) | (with_reducible refine Kd.C_alloc ?_ _) | (with_reducible refine Kd.C_drewN ?_ _) | (with_reducible refine Kd.C_drew ?_))); (case side2 => exact HC0.out); (case side3 => exact by (with_reducible repeat (first | refine xq ?_ _ | refine xr ?_ | refine xo ?_ _)); exact BK282.out); rintro e w9 ⟨rfl, hb⟩; have n0_ := xm (blk_below (kB BK282) hb); have n1_ := xm (below_step bG hb); revert n0_ n1_; clear BK282 HB; intro BK282 HB; (try clear hb)))
   go_ret
   exact ⟨eB, bG⟩
  ·rw [if_neg c5] at H
   have c5b0 : decide ((l0.length : Int) ≤ 10) = false := decide_eq_false c5
   have c5b1 : decide (l0.length ≤ 10) = false := decide_eq_false (by omega)
   clear c5
   obtain rfl := Option.some.inj H
   go_enter Try.func40, Try.ntmps40
   go_wp2_with (first | ((with_reducible refine gate_dst (N := 3) rfl ?_); (try (refine gate_guard (by rfl) ?_; dsimp only)); refine box_event ?hg (N := 3) ?hd (cs := #[.int .i64 a1]) (t := 3) ?hr ?_; (case hd => rfl); (case hg => rfl); (case hr => exact zB); intro gb282 hg w10 hbox hb; have n0_ := xm (below_step bB hb); have n1_ := xm (hbox); have n2_ := xm ((by rw [hg]; exact (xz bB) : w.heap.size ≤ gb282)); have n3_ := xm ((by rw [hg]; exact (xz bB) : w.heap.size ≤ gb282)); revert n0_ n1_ n2_ n3_; clear HB; intro HB BK282 GW282 GE282; clear hb hbox hg; obtain ⟨hcz11_0, hfz11_0⟩ := cz1 BK282.out) | ((with_reducible refine gate_callee (f := 51) rfl ?_); refine goesL_ (some 6) rfl rfl Try.func51 (by kernel_rfl) rfl #[.int .i64 a1, .int .i64 1, .int .i64 6] rfl mB ?_; (with_reducible refine (impl_within.calls a1 1 6 true _ A3.out).mono ?_); rintro e w' ⟨rfl, ⟨nd, rfl⟩⟩; refine ⟨_, rfl, ?_⟩))
   go_ret
   exact ⟨eB, bG⟩
 ·replace c4 := Bool.eq_false_iff.mpr c4
  subst c4
  have H1 : (some false) = some r := by first | (with_reducible rfl) | (rw [if_neg (show ¬ (false = true) by decide)] at H; exact H)
  clear H
  have H := H1
  clear H1
  obtain rfl := Option.some.inj H
  go_enter Try.func40, Try.ntmps40
  go_wp2_with (first | ((with_reducible refine gate_dst (N := 3) rfl ?_); (try (refine gate_guard (by rfl) ?_; dsimp only)); refine box_event ?hg (N := 3) ?hd (cs := #[.int .i64 a1]) (t := 3) ?hr ?_; (case hd => rfl); (case hg => rfl); (case hr => exact zB); intro gb282 hg w12 hbox hb; have n0_ := xm (below_step bB hb); have n1_ := xm (hbox); have n2_ := xm ((by rw [hg]; exact (xz bB) : w.heap.size ≤ gb282)); have n3_ := xm ((by rw [hg]; exact (xz bB) : w.heap.size ≤ gb282)); revert n0_ n1_ n2_ n3_; clear HB; intro HB BK282 GW282 GE282; clear hb hbox hg; obtain ⟨hcz13_0, hfz13_0⟩ := cz1 BK282.out) | ((with_reducible refine gate_callee (f := 51) rfl ?_); refine goesL_ (some 6) rfl rfl Try.func51 (by kernel_rfl) rfl #[.int .i64 a1, .int .i64 1, .int .i64 6] rfl mB ?_; (with_reducible refine (impl_within.calls a1 1 6 false _ A3.out).mono ?_); rintro e w' ⟨rfl, ⟨nd, rfl⟩⟩; refine ⟨_, rfl, ?_⟩))
  go_ret
  exact ⟨eB, bG⟩

/-! ### impl_set_has: function 27 -/
def impl_set_has.f (a0 : Int) (a1 : Int) : Option (Bool) := some ((Go.bits .and .i64 a0 a1) == a1)
set_option maxHeartbeats 8000000 in
set_option maxRecDepth 100000 in
theorem impl_set_has.calls (a0 : Int) (a1 : Int) (r : Bool) (w : World) (h : impl_set_has.f a0 a1 = some r) :
  Calls Try.prog 27 #[.int .i64 a0, .int .i64 a1] w fun e w' => e = .returned (.bool r) ∧ Drawn0 w w' := by
 have H : (some ((Go.bits .and .i64 a0 a1) == a1)) = some r := h
 clear h
 obtain rfl := Option.some.inj H
 go_enter Try.func27, Try.ntmps27
 go_wp2
 go_ret
 exact ⟨sB, dB⟩

/-! ### impl_closure: function 24 -/
mutual
def impl_closure.l0 : Nat → List (S72) → Int → Option (Int)
 | 0, _, _ => none
 | k + 1, x0, x1 => impl_closure.l1 k x0 x1 x1 x0 (x0.length : Int) 0
def impl_closure.l1 : Nat → List (S72) → Int → Int → List (S72) → Int → Int → Option (Int)
 | 0, _, _, _, _, _, _ => none
 | k + 1, x0, x1, x5, x9, x10, x11 => if x11 < x10 then (if 0 ≤ x11 then (if x11 < (x9.length : Int) then ((impl_set_has.f x5 ((rd_T72 x9 x11).f0)).bind fun t287 => (if t287 = true then (impl_closure.l1 k x0 x1 (Go.bits .or .i64 x5 ((rd_T72 x9 x11).f1)) x9 x10 (wrap64 (x11 + 1))) else (impl_closure.l1 k x0 x1 x5 x9 x10 (wrap64 (x11 + 1))))) else (none)) else (none)) else (if x5 = x1 then (some x1) else (impl_closure.l0 k x0 x5))
end
def impl_closure.f (k : Nat) (l0 : List (S72)) (a1 : Int) : Option (Int) := impl_closure.l0 k l0 a1
theorem impl_closure.mono_l : ∀ k, (∀ y0 y1, LeO (impl_closure.l0 k y0 y1) (impl_closure.l0 (k + 1) y0 y1)) ∧ (∀ y0 y1 y2 y3 y4 y5, LeO (impl_closure.l1 k y0 y1 y2 y3 y4 y5) (impl_closure.l1 (k + 1) y0 y1 y2 y3 y4 y5))
 | 0 => ⟨fun _ _ r h => by simp [impl_closure.l0] at h, fun _ _ _ _ _ _ r h => by simp [impl_closure.l1] at h⟩
 | k + 1 => by
  obtain ⟨ih0, ih1⟩ := impl_closure.mono_l k
  refine ⟨?_, ?_⟩
  ·intro y0 y1
   unfold impl_closure.l0
   repeat' first
   | (with_reducible exact ih0 _ _)
   | (with_reducible exact ih1 _ _ _ _ _ _)
   | (with_reducible exact LeO.refl _)
   | (with_reducible exact LeO.none _)
   | (with_reducible refine LeO.ite ?_ ?_)
   | (with_reducible refine LeO.bind ?_ (fun _ => ?_))
   | exact ih0 _ _
   | exact ih1 _ _ _ _ _ _
   | exact LeO.none _
   | refine LeO.ite ?_ ?_
   | refine LeO.bind ?_ (fun _ => ?_)
  ·intro y0 y1 y2 y3 y4 y5
   unfold impl_closure.l1
   repeat' first
   | (with_reducible exact ih0 _ _)
   | (with_reducible exact ih1 _ _ _ _ _ _)
   | (with_reducible exact LeO.refl _)
   | (with_reducible exact LeO.none _)
   | (with_reducible refine LeO.ite ?_ ?_)
   | (with_reducible refine LeO.bind ?_ (fun _ => ?_))
   | exact ih0 _ _
   | exact ih1 _ _ _ _ _ _
   | exact LeO.none _
   | refine LeO.ite ?_ ?_
   | refine LeO.bind ?_ (fun _ => ?_)
theorem impl_closure.mono : ∀ a0 a1 k, LeO (impl_closure.f k a0 a1) (impl_closure.f (k + 1) a0 a1) := by
 intro a0 a1 k
 obtain ⟨ih0, ih1⟩ := impl_closure.mono_l k
 unfold impl_closure.f
 repeat' first
   | (with_reducible exact ih0 _ _)
   | (with_reducible exact ih1 _ _ _ _ _ _)
   | (with_reducible exact LeO.refl _)
   | (with_reducible exact LeO.none _)
   | (with_reducible refine LeO.ite ?_ ?_)
   | (with_reducible refine LeO.bind ?_ (fun _ => ?_))
   | exact ih0 _ _
   | exact ih1 _ _ _ _ _ _
   | exact LeO.none _
   | refine LeO.ite ?_ ?_
   | refine LeO.bind ?_ (fun _ => ?_)
set_option maxHeartbeats 8000000 in
set_option maxRecDepth 100000 in
theorem impl_closure.calls (k : Nat) (A0 : Option Addr) (c0 : Nat) (l0 : List (S72)) (a1 : Int) (r : Int) (w : World) (hr0 : Kd.C k72 w A0 l0.length l0) (hc0 : l0.length ≤ c0) (h : impl_closure.f k l0 a1 = some r) :
  Calls Try.prog 24 #[.slice A0 l0.length c0, .int .i64 a1] w fun e w' => e = .returned (.int .i64 r) ∧ Below w.heap.size w w' := by
 have hu72 := Try.underlying72
 have HR0 := xm hr0
 have HC0 := xm hc0
 clear hr0 hc0
 have HB := xm (Below.refl w.heap.size w)
 have H : (impl_closure.l0 k l0 a1) = some r := h
 clear h
 have H' := xm H
 clear H
 go_enter Try.func24, Try.ntmps24
 go_wp2
 go_loopg [1] k (fun kq v1 w' => ∃ (x1_1 : Int), v1 = .int .i64 x1_1 ∧ Aside0 (impl_closure.l0 kq l0 x1_1 = some r) ∧ Aside0 (kq ≤ k) ∧ Aside0 (Below w.heap.size w w'))
 case atStart => exact ⟨(a1), sB, H', ⟨Nat.le_refl _⟩, ⟨bG⟩⟩
 case round =>
  clear H'
  try clear c2
  try clear p2
  obtain ⟨x1_1, rfl, HA, HK1, HB⟩ := hrel
  cases gk with
  | zero => exact absurd HA.out (by simp [impl_closure.l0])
  | succ k1 =>
   have H := HA.out
   clear HA
   simp only [impl_closure.l0] at H
   have H' := xm H
   clear H
   go_wp2
   go_loopg [5, 11] k1 (fun kq v5 v11 w' => ∃ (x5_2 : Int) (x11_2 : Int), v5 = .int .i64 x5_2 ∧ v11 = .int .i64 x11_2 ∧ Aside0 (impl_closure.l1 kq l0 x1_1 x5_2 l0 (l0.length : Int) x11_2 = some r) ∧ Aside0 (kq ≤ k1) ∧ Aside0 (Below w.heap.size w w'))
   case atStart => exact ⟨(x1_1), (0), sB, sB, H', ⟨Nat.le_refl _⟩, ⟨bG⟩⟩
   case round =>
    clear H'
    try clear c2
    try clear p2
    try clear p2
    obtain ⟨x5_2, x11_2, rfl, rfl, HA, HK2, HB⟩ := hrel
    cases gk with
    | zero => exact absurd HA.out (by simp [impl_closure.l1])
    | succ k2 =>
     have H := HA.out
     clear HA
     simp only [impl_closure.l1] at H
     by_cases c3 : x11_2 < (l0.length : Int)
     ·rw [if_pos c3] at H
      have c3b0 : decide (x11_2 < (l0.length : Int)) = true := decide_eq_true c3
      clear c3
      by_cases c4 : 0 ≤ x11_2
      ·rw [if_pos c4] at H
       have c4b0 : decide (0 ≤ x11_2) = true := decide_eq_true c4
       clear c4
       by_cases c5 : x11_2 < (l0.length : Int)
       ·rw [if_pos c5] at H
        have c5b0 : decide (x11_2 < (l0.length : Int)) = true := decide_eq_true c5
        clear c5
        replace H := Option.bind_eq_some_iff.mp H
        obtain ⟨t287, A60, H⟩ := H
        replace H : (if t287 = true then (impl_closure.l1 k2 l0 x1_1 (Go.bits .or .i64 x5_2 ((rd_T72 l0 x11_2).f1)) l0 (l0.length : Int) (wrap64 (x11_2 + 1))) else (impl_closure.l1 k2 l0 x1_1 x5_2 l0 (l0.length : Int) (wrap64 (x11_2 + 1)))) = some r := H
        have A6 := xm A60
        clear A60
        by_cases c7 : t287 = true
        ·subst c7
         have H1 : (impl_closure.l1 k2 l0 x1_1 (Go.bits .or .i64 x5_2 ((rd_T72 l0 x11_2).f1)) l0 (l0.length : Int) (wrap64 (x11_2 + 1))) = some r := by first | (with_reducible rfl) | (rw [if_pos rfl] at H; exact H)
         clear H
         have H := H1
         clear H1
         have H' := xm H
         clear H
         have p285 : 0 ≤ (x11_2 : Int) := of_decide_eq_true aB
         have q285 : x11_2 < (l0.length : Int) := of_decide_eq_true aB
         obtain ⟨ad285, e285, hx285_0, hx285_1⟩ := at_T72 HR0.out x11_2 p285 q285
         cases e285
         replace hx285_0 := hU hx285_0
         replace hx285_1 := hU hx285_1
         replace p285 := eq_true p285
         replace q285 := eq_true q285
         go_wp2_with (first | ((with_reducible refine gate_dst (N := 7) rfl ?_); refine box_event ?hg (N := 7) ?hd (cs := #[.int .i64 0, .int .i64 0]) (t := 72) ?hr ?_; (case hd => rfl); (case hg => rfl); (case hr => exact zB); intro gb286 hg w8 hbox hb; have n0_ := xm (below_step bB hb); have n1_ := xm (hbox); have n2_ := xm ((by rw [hg]; exact (xz bB) : w.heap.size ≤ gb286)); have n3_ := xm ((by rw [hg]; exact (xz bB) : w.heap.size ≤ gb286)); revert n0_ n1_ n2_ n3_; clear HB; intro HB BK286 GW286 GE286; clear hb hbox hg; obtain ⟨hcz9_0, hcz9_1, hfz9_0, hfz9_1⟩ := cz2 BK286.out) | ((with_reducible refine gate_callee (f := 27) rfl ?_); refine goesL_ (some 18) rfl rfl Try.func27 (by kernel_rfl) rfl #[.int .i64 x5_2, .int .i64 ((rd_T72 l0 x11_2).f0)] rfl mB ?_; (with_reducible refine (impl_set_has.calls x5_2 ((rd_T72 l0 x11_2).f0) true _ A6.out).mono ?_); rintro e w' ⟨rfl, ⟨nd, rfl⟩⟩; refine ⟨_, rfl, ?_⟩))
         go_roundg k2
         case measure => have := HK1.out; have := HK2.out; omega
         case rel => exact ⟨(Go.bits .or .i64 x5_2 ((rd_T72 l0 x11_2).f1)), (wrap64 (x11_2 + 1)), sB, sB, H', ⟨by have := HK1.out; have := HK2.out; omega⟩, ⟨bG⟩⟩
        ·replace c7 := Bool.eq_false_iff.mpr c7
         subst c7
         have H1 : (impl_closure.l1 k2 l0 x1_1 x5_2 l0 (l0.length : Int) (wrap64 (x11_2 + 1))) = some r := by first | (with_reducible rfl) | (rw [if_neg (show ¬ (false = true) by decide)] at H; exact H)
         clear H
         have H := H1
         clear H1
         have H' := xm H
         clear H
         have p285 : 0 ≤ (x11_2 : Int) := of_decide_eq_true aB
         have q285 : x11_2 < (l0.length : Int) := of_decide_eq_true aB
         obtain ⟨ad285, e285, hx285_0, hx285_1⟩ := at_T72 HR0.out x11_2 p285 q285
         cases e285
         replace hx285_0 := hU hx285_0
         replace hx285_1 := hU hx285_1
         replace p285 := eq_true p285
         replace q285 := eq_true q285
         go_wp2_with (first | ((with_reducible refine gate_dst (N := 7) rfl ?_); refine box_event ?hg (N := 7) ?hd (cs := #[.int .i64 0, .int .i64 0]) (t := 72) ?hr ?_; (case hd => rfl); (case hg => rfl); (case hr => exact zB); intro gb286 hg w10 hbox hb; have n0_ := xm (below_step bB hb); have n1_ := xm (hbox); have n2_ := xm ((by rw [hg]; exact (xz bB) : w.heap.size ≤ gb286)); have n3_ := xm ((by rw [hg]; exact (xz bB) : w.heap.size ≤ gb286)); revert n0_ n1_ n2_ n3_; clear HB; intro HB BK286 GW286 GE286; clear hb hbox hg; obtain ⟨hcz11_0, hcz11_1, hfz11_0, hfz11_1⟩ := cz2 BK286.out) | ((with_reducible refine gate_callee (f := 27) rfl ?_); refine goesL_ (some 18) rfl rfl Try.func27 (by kernel_rfl) rfl #[.int .i64 x5_2, .int .i64 ((rd_T72 l0 x11_2).f0)] rfl mB ?_; (with_reducible refine (impl_set_has.calls x5_2 ((rd_T72 l0 x11_2).f0) false _ A6.out).mono ?_); rintro e w' ⟨rfl, ⟨nd, rfl⟩⟩; refine ⟨_, rfl, ?_⟩))
         go_roundg k2
         case measure => have := HK1.out; have := HK2.out; omega
         case rel => exact ⟨(x5_2), (wrap64 (x11_2 + 1)), sB, sB, H', ⟨by have := HK1.out; have := HK2.out; omega⟩, ⟨bG⟩⟩
       ·rw [if_neg c5] at H
        exact absurd H (by simp)
      ·rw [if_neg c4] at H
       exact absurd H (by simp)
     ·rw [if_neg c3] at H
      have c3b0 : decide (x11_2 < (l0.length : Int)) = false := decide_eq_false c3
      clear c3
      by_cases c12 : x5_2 = x1_1
      ·rw [if_pos c12] at H
       have c12b0 : (x5_2 == x1_1) = true := beq_iff_eq.mpr c12
       have c12b1 : (x5_2 != x1_1) = false := bne_eq_false_iff_eq.mpr c12
       clear c12
       obtain rfl := Option.some.inj H
       go_wp2
       go_ret
       exact ⟨eB, bG⟩
      ·rw [if_neg c12] at H
       have c12b0 : (x5_2 == x1_1) = false := beq_eq_false_iff_ne.mpr c12
       have c12b1 : (x5_2 != x1_1) = true := bne_iff_ne.mpr c12
       have H' := xm H
       clear H
       go_wp2
       go_roundg k2
       case measure => have := HK1.out; have := HK2.out; omega
       case rel => exact ⟨(x5_2), sB, H', ⟨by have := HK1.out; have := HK2.out; omega⟩, ⟨bG⟩⟩

/-! ### impl_implies: function 42 -/
def impl_implies.f (k : Nat) (l0 : List (S72)) (a1_0 : Int) (a1_1 : Int) : Option (Bool) := (impl_closure.f k l0 a1_0).bind fun t289 => ((impl_set_has.f t289 a1_1).bind fun t290 => (some t290))
theorem impl_implies.mono : ∀ a0 a1 a2 k, LeO (impl_implies.f k a0 a1 a2) (impl_implies.f (k + 1) a0 a1 a2) := by
 intro a0 a1 a2 k
 unfold impl_implies.f
 repeat' first
   | (with_reducible exact impl_closure.mono _ _ _)
   | (with_reducible exact LeO.refl _)
   | (with_reducible exact LeO.none _)
   | (with_reducible refine LeO.ite ?_ ?_)
   | (with_reducible refine LeO.bind ?_ (fun _ => ?_))
   | exact impl_closure.mono _ _ _
   | exact LeO.none _
   | refine LeO.ite ?_ ?_
   | refine LeO.bind ?_ (fun _ => ?_)
def impl_implies.T1 : Bool × List (List Nat × List Nat) := (true, [([], []), ([], []), ([1], [1]), ([0, 2], [0, 2]), ([], []), ([4], [4]), ([3, 5, 3], [3, 5]), ([6, 6, 0, 1, 2, 3, 4, 5, 6], [6])])
def impl_implies.B1 : List Nat := [0, 0, 2, 7, 0, 16, 63, 127]
theorem impl_implies.tab1 : rtab .any (opsOf Try.f42 1) = impl_implies.T1 := by kernel_rfl
theorem impl_implies.bits1 : waitsOk impl_implies.T1.2 impl_implies.B1 = true := by kernel_rfl
set_option maxHeartbeats 8000000 in
set_option maxRecDepth 100000 in
theorem impl_implies.calls (k : Nat) (A0 : Option Addr) (c0 : Nat) (l0 : List (S72)) (a1_0 : Int) (a1_1 : Int) (r : Bool) (w : World) (hr0 : Kd.C k72 w A0 l0.length l0) (hc0 : l0.length ≤ c0) (h : impl_implies.f k l0 a1_0 a1_1 = some r) :
  Calls Try.prog 42 #[.slice A0 l0.length c0, .agg #[.int .i64 a1_0, .int .i64 a1_1]] w fun e w' => e = .returned (.bool r) ∧ Below w.heap.size w w' := by
 have hu72 := Try.underlying72
 have HR0 := xm hr0
 have HC0 := xm hc0
 clear hr0 hc0
 have HB := xm (Below.refl w.heap.size w)
 have H : ((impl_closure.f k l0 a1_0).bind fun t289 => ((impl_set_has.f t289 a1_1).bind fun t290 => (some t290))) = some r := h
 clear h
 replace H := Option.bind_eq_some_iff.mp H
 obtain ⟨t289, A30, H⟩ := H
 replace H : ((impl_set_has.f t289 a1_1).bind fun t290 => (some t290)) = some r := H
 have A3 := xm A30
 clear A30
 replace H := Option.bind_eq_some_iff.mp H
 obtain ⟨t290, A40, H⟩ := H
 replace H : (some t290) = some r := H
 have A4 := xm A40
 clear A40
 obtain rfl := Option.some.inj H
 go_enter Try.func42, Try.ntmps42
 try go_wp2_with (first | ((with_reducible refine gate_dst (N := 3) rfl ?_); refine box_event ?hg (N := 3) ?hd (cs := #[.int .i64 a1_0, .int .i64 a1_1]) (t := 72) ?hr ?_; (case hd => rfl); (case hg => rfl); (case hr => exact zB); intro gb288 hg w5 hbox hb; have n0_ := xm (below_step bB hb); have n1_ := xm (hbox); have n2_ := xm ((by rw [hg]; exact (xz bB) : w.heap.size ≤ gb288)); have n3_ := xm ((by rw [hg]; exact (xz bB) : w.heap.size ≤ gb288)); revert n0_ n1_ n2_ n3_; clear HB; intro HB BK288 GW288 GE288; clear hb hbox hg))
 have n0_ := xm (xr BK288.out)
 have n1_ := xm (xd HB.out)
 revert n0_ n1_; clear BK288 HB; intro BK288 HB
 refine start_ (n := 8) (S := fun w' => w'.cell? ⟨gb288, 0, none⟩ = some (.int .i64 a1_0) ∧ w'.cell? ⟨gb288, 1, none⟩ = some (.int .i64 a1_1)) (ds := []) #[Z,Z,Z,Z,Z,Z,Z,Z] (by kernel_rfl) rfl rfl ⟨(xc BK288.out 0).trans rfl, (xc BK288.out 1).trans rfl⟩ (fun hHeld => ?_); refine with_tabW impl_implies.tab1 impl_implies.bits1 (fun HT_ HW_ => ?_)
 generalize w5.drew = w6 at BK288 HB hHeld ⊢
 refine pu 0 8 1 ?_
 refine pu 1 8 3 ?_
 refine pu 4 8 19 ?_
 refine tx 2 8 23 rfl rfl (take_ofW HT_.out HW_.out (by kernel_rfl)) hHeld (by rintro w' ⟨s0, s1⟩; go_simp; with_reducible rfl) ?_
 refine tx 5 8 55 rfl rfl (take_ofW HT_.out HW_.out (by kernel_rfl)) hHeld (by rintro w' ⟨s0, s1⟩; go_simp; with_reducible rfl) ?_
 refine one_ (i := 3) (N := some 8) #[Y,Y,Y,Y,Y,Y,Z,Z] rfl rfl (one_of HT_.out (by kernel_rfl)) (by decide) (fun K hK => ?_)
 refine goes_ Try.func24 (by kernel_rfl) rfl #[.slice A0 l0.length c0, .int .i64 a1_0] (by rfl) rfl rfl mB ?_
 with_reducible refine (impl_closure.calls k _ _ l0 a1_0 t289 _ ?side1 ?side2 A3.out).mono ?_
 (case side1 => exact cB (Kd.C_below HR0.out HB.out))
 (case side2 => exact HC0.out)
 rintro e w7 ⟨rfl, hb⟩
 refine ⟨_, rfl, ?_⟩
 have n0_ := xm (blk_below (kB BK288) hb)
 have n1_ := xm (below_step bG hb)
 revert n0_ n1_; clear BK288 HB; intro BK288 HB
 (try clear hb)
 (try clear hb2)
 (try clear hk)
 (try clear hi)
 refine hK.out _ _ ⟨(xc BK288.out 0).trans rfl, (xc BK288.out 1).trans rfl⟩ (fun hHeld => nC ?_)
 clear hK K
 refine one_ (i := 6) (N := some 11) #[Y,Y,Y,Y,Y,Y,Y,Z] rfl rfl (one_of HT_.out (by kernel_rfl)) (by decide) (fun K hK => ?_)
 refine goes_ Try.func27 (by kernel_rfl) rfl #[.int .i64 t289, .int .i64 a1_1] (by rfl) rfl rfl mB ?_
 with_reducible refine (impl_set_has.calls t289 a1_1 t290 _ A4.out).mono ?_
 rintro e w' ⟨rfl, ⟨nd, rfl⟩⟩
 refine ⟨_, rfl, ?_⟩
 refine hK.out _ _ ⟨(xc BK288.out 0).trans rfl, (xc BK288.out 1).trans rfl⟩ (fun hHeld => nC ?_)
 clear hK K
 refine pu 7 8 255 ?_
 refine done_ (done_of HT_.out (by kernel_rfl)) ?_
 try go_wp2
 go_ret
 exact ⟨eB, bG⟩

/-! ### impl_ruleOf: function 43 -/
def impl_ruleOf.f (k : Nat) (l0_0 : List Int) (l0_1 : List Int) : Option (Int × Int) := (impl_setOf.f k l0_0).bind fun t293 => ((impl_setOf.f k l0_1).bind fun t294 => (some (t293, t294)))
theorem impl_ruleOf.mono : ∀ a0 a1 k, LeO (impl_ruleOf.f k a0 a1) (impl_ruleOf.f (k + 1) a0 a1) := by
 intro a0 a1 k
 unfold impl_ruleOf.f
 repeat' first
   | (with_reducible exact impl_setOf.mono _ _)
   | (with_reducible exact LeO.refl _)
   | (with_reducible exact LeO.none _)
   | (with_reducible refine LeO.ite ?_ ?_)
   | (with_reducible refine LeO.bind ?_ (fun _ => ?_))
   | exact impl_setOf.mono _ _
   | exact LeO.none _
   | refine LeO.ite ?_ ?_
   | refine LeO.bind ?_ (fun _ => ?_)
def impl_ruleOf.T1 : Bool × List (List Nat × List Nat) := (true, [([], []), ([0], [0]), ([1], [1]), ([], []), ([3], [3]), ([4, 2], [4]), ([2, 5], [2, 5]), ([6, 5, 0, 1, 2, 3, 4, 5, 6], [6])])
def impl_ruleOf.B1 : List Nat := [0, 1, 3, 0, 8, 31, 63, 127]
theorem impl_ruleOf.tab1 : rtab .any (opsOf Try.f43 1) = impl_ruleOf.T1 := by kernel_rfl
theorem impl_ruleOf.bits1 : waitsOk impl_ruleOf.T1.2 impl_ruleOf.B1 = true := by kernel_rfl
set_option maxHeartbeats 8000000 in
set_option maxRecDepth 100000 in
theorem impl_ruleOf.calls (k : Nat) (A0_0 : Option Addr) (c0_0 : Nat) (l0_0 : List Int) (A0_1 : Option Addr) (c0_1 : Nat) (l0_1 : List Int) (r1 : Int) (r2 : Int) (w : World) (hr0_0 : Kd.C (Kd.int .i64) w A0_0 l0_0.length l0_0) (hc0_0 : l0_0.length ≤ c0_0) (hr0_1 : Kd.C (Kd.int .i64) w A0_1 l0_1.length l0_1) (hc0_1 : l0_1.length ≤ c0_1) (h : impl_ruleOf.f k l0_0 l0_1 = some (r1, r2)) :
  Calls Try.prog 43 #[.agg #[.slice A0_0 l0_0.length c0_0, .slice A0_1 l0_1.length c0_1]] w fun e w' => e = .returned (.agg #[.int .i64 r1, .int .i64 r2]) ∧ Below w.heap.size w w' := by
 have hu35 := Try.underlying35
 have hu72 := Try.underlying72
 have HR0_0 := xm hr0_0
 have HC0_0 := xm hc0_0
 clear hr0_0 hc0_0
 have HR0_1 := xm hr0_1
 have HC0_1 := xm hc0_1
 clear hr0_1 hc0_1
 have HB := xm (Below.refl w.heap.size w)
 have H : ((impl_setOf.f k l0_0).bind fun t293 => ((impl_setOf.f k l0_1).bind fun t294 => (some (t293, t294)))) = some (r1, r2) := h
 clear h
 replace H := Option.bind_eq_some_iff.mp H
 obtain ⟨t293, A20, H⟩ := H
 replace H : ((impl_setOf.f k l0_1).bind fun t294 => (some (t293, t294))) = some (r1, r2) := H
 have A2 := xm A20
 clear A20
 replace H := Option.bind_eq_some_iff.mp H
 obtain ⟨t294, A30, H⟩ := H
 replace H : (some (t293, t294)) = some (r1, r2) := H
 have A3 := xm A30
 clear A30
 simp only [Option.some.injEq, Prod.mk.injEq] at H
 obtain ⟨rfl, rfl⟩ := H
 go_enter Try.func43, Try.ntmps43
 try go_wp2_with (first | ((with_reducible refine gate_dst (N := 1) rfl ?_); refine box_event ?hg (N := 1) ?hd (cs := #[.slice A0_0 l0_0.length c0_0, .slice A0_1 l0_1.length c0_1]) (t := 35) ?hr ?_; (case hd => rfl); (case hg => rfl); (case hr => exact zB); intro gb291 hg w4 hbox hb; have n0_ := xm (below_step bB hb); have n1_ := xm (hbox); have n2_ := xm ((by rw [hg]; exact (xz bB) : w.heap.size ≤ gb291)); have n3_ := xm ((by rw [hg]; exact (xz bB) : w.heap.size ≤ gb291)); revert n0_ n1_ n2_ n3_; clear HB; intro HB BK291 GW291 GE291; clear hb hbox hg) | ((with_reducible refine gate_dst (N := 2) rfl ?_); refine box_event ?hg (N := 2) ?hd (cs := #[.int .i64 0, .int .i64 0]) (t := 72) ?hr ?_; (case hd => rfl); (case hg => rfl); (case hr => exact zB); intro gb292 hg w5 hbox hb; have n0_ := xm (blk_below (kB BK291) hb); have n1_ := xm (below_step bG hb); have n2_ := xm (hbox); have n3_ := xm ((by rw [hg]; exact (xz bG) : w.heap.size ≤ gb292)); have n4_ := xm ((by rw [hg]; exact (xz bG) : w.heap.size ≤ gb292)); have n5_ := xm ((by rw [hg]; exact Nat.ne_of_lt (blk_lt (kB BK291)) : gb291 ≠ gb292)); have n6_ := xm ((by rw [hg]; exact Nat.ne_of_gt (blk_lt (kB BK291)) : gb292 ≠ gb291)); revert n0_ n1_ n2_ n3_ n4_ n5_ n6_; clear BK291 HB; intro BK291 HB BK292 GW292 GE292 NB291_292 NB292_291; clear hb hbox hg))
 have n0_ := xm (xr BK291.out)
 have n1_ := xm (xr BK292.out)
 have n2_ := xm (xd HB.out)
 revert n0_ n1_ n2_; clear BK291 BK292 HB; intro BK291 BK292 HB
 refine start_ (n := 8) (S := fun w' => w'.cell? ⟨gb291, 0, none⟩ = some (.slice A0_0 l0_0.length c0_0) ∧ w'.cell? ⟨gb291, 1, none⟩ = some (.slice A0_1 l0_1.length c0_1)) (ds := []) #[Z,Z,Z,Z,Z,Z,Z,Z] (by kernel_rfl) rfl rfl ⟨(xc BK291.out 0).trans rfl, (xc BK291.out 1).trans rfl⟩ (fun hHeld => ?_); refine with_tabW impl_ruleOf.tab1 impl_ruleOf.bits1 (fun HT_ HW_ => ?_)
 generalize w5.drew = w6 at BK291 BK292 HB hHeld ⊢
 refine pu 0 8 1 ?_
 refine pu 3 8 9 ?_
 refine tx 1 8 11 rfl rfl (take_ofW HT_.out HW_.out (by kernel_rfl)) hHeld (by rintro w' ⟨s0, s1⟩; go_simp; with_reducible rfl) ?_
 refine tx 4 8 27 rfl rfl (take_ofW HT_.out HW_.out (by kernel_rfl)) hHeld (by rintro w' ⟨s0, s1⟩; go_simp; with_reducible rfl) ?_
 refine one_ (i := 2) (N := some 5) #[Y,Y,Y,Y,Y,Z,Z,Z] rfl rfl (one_of HT_.out (by kernel_rfl)) (by decide) (fun K hK => ?_)
 refine goes_ Try.func26 (by kernel_rfl) rfl #[.slice A0_0 l0_0.length c0_0] (by rfl) rfl rfl mB ?_
 with_reducible refine (impl_setOf.calls k _ _ l0_0 t293 _ ?side1 ?side2 A2.out).mono ?_
 (case side1 => exact cB (Kd.C_below HR0_0.out HB.out))
 (case side2 => exact HC0_0.out)
 rintro e w' ⟨rfl, ⟨nd, rfl⟩⟩
 refine ⟨_, rfl, ?_⟩
 refine hK.out _ _ ⟨(xc BK291.out 0).trans rfl, (xc BK291.out 1).trans rfl⟩ (fun hHeld => nC ?_)
 clear hK K
 refine one_ (i := 5) (N := some 8) #[Y,Y,Y,Y,Y,Y,Z,Z] rfl rfl (one_of HT_.out (by kernel_rfl)) (by decide) (fun K hK => ?_)
 refine goes_ Try.func26 (by kernel_rfl) rfl #[.slice A0_1 l0_1.length c0_1] (by rfl) rfl rfl mB ?_
 with_reducible refine (impl_setOf.calls k _ _ l0_1 t294 _ ?side1 ?side2 A3.out).mono ?_
 (case side1 => repeat (first | exact (Kd.C_below HR0_1.out bG) | (with_reducible refine Kd.C_alloc ?_ _) | (with_reducible refine Kd.C_drewN ?_ _) | (with_reducible refine Kd.C_drew ?_)))
 (case side2 => exact HC0_1.out)
 rintro e w' ⟨rfl, ⟨nd, rfl⟩⟩
 refine ⟨_, rfl, ?_⟩
 refine hK.out _ _ ⟨(xc BK291.out 0).trans rfl, (xc BK291.out 1).trans rfl⟩ (fun hHeld => nC ?_)
 clear hK K
 refine pu 6 8 127 ?_
 refine one_ (i := 7) (N := none) #[Y,Y,Y,Y,Y,Y,Y,Y] rfl rfl (one_of HT_.out (by kernel_rfl)) (by decide) (fun K hK => ?_)
 have hs7 : w6.cell? ⟨gb292, 0, none⟩ = some (.int .i64 0) := (xc BK292.out 0).trans rfl
 have hfs7 := xf BK292.out 0
 have hns7_0 := NB291_292.out
 have hms7_0 := NB292_291.out
 have hs8 : w6.cell? ⟨gb292, 1, none⟩ = some (.int .i64 0) := (xc BK292.out 1).trans rfl
 have hfs8 := xf BK292.out 1
 have hns8_0 := NB291_292.out
 have hms8_0 := NB292_291.out
 refine skip_ (w1 := ?_) (by rfl) rfl ?_ ?_
 rotate_left
 ·go_simp
  rfl
 refine hK.out _ _ ⟨((cell_far (p := ⟨gb292, _, none⟩) NB291_292.out _).trans (((cell_far (p := ⟨gb292, _, none⟩) NB291_292.out _).trans (hHeld.1)))), ((cell_far (p := ⟨gb292, _, none⟩) NB291_292.out _).trans (((cell_far (p := ⟨gb292, _, none⟩) NB291_292.out _).trans (hHeld.2))))⟩ (fun hHeld => ?_)
 clear hK K
 refine done_ (done_of HT_.out (by kernel_rfl)) ?_
 try go_wp2
 refine bodyPost_ret (results_cell_row rfl _ _ gb292 72 #[.int .i64 t293, .int .i64 t294] (0, 0) _ rfl (by (with_reducible repeat (first | refine xq ?_ _ | refine xr ?_ | refine xo ?_ _)); refine blk_put (cs := #[.int .i64 t293, .int .i64 0]) ?_ 1 _ rfl; (with_reducible repeat (first | refine xq ?_ _ | refine xr ?_ | refine xo ?_ _)); refine blk_put (cs := #[.int .i64 0, .int .i64 0]) ?_ 0 _ rfl; (with_reducible repeat (first | refine xq ?_ _ | refine xr ?_ | refine xo ?_ _)); exact BK292.out) Try.underlying72 rfl (by kernel_rfl)) rfl ?_
 exact ⟨eB, bG⟩

end Go.Proofs.Ytaddemalepndfah.G
