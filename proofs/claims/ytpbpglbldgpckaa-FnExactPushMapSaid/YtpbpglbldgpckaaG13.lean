/- Written by a program of this claim's own, out of the translation: functions of the program as plain functions, and that the calls answer as these. No conditions. -/
import Derived.Test.YtpbpglbldgpckaaG0
import Derived.Test.YtpbpglbldgpckaaG2
import Derived.Test.YtpbpglbldgpckaaG4
import Derived.Test.YtpbpglbldgpckaaG5
import Derived.Test.YtpbpglbldgpckaaG8
import Derived.Test.YtpbpglbldgpckaaG12
namespace Go.Proofs.Ytpbpglbldgpckaa.G
open Go.RowKit Go.Proofs.Ytpbpglbldgpckaa.X Go.Proofs.YtpbpglbldgpckaaW.PrintWords Go.Proofs.YtpbpglbldgpckaaW.PrintLast Go.Proofs.YtpbpglbldgpckaaW.PrintMore
attribute [local go_sem] max2_int min2_int max_two min_two max_three min_three max_four min_four   -- for this text's walks alone
set_option linter.unusedVariables false
set_option linter.unusedSimpArgs false

/-! ### laws_FnExactPushMap: function 13 -/
def laws_FnExactPushMap.f (k : Nat) (l0_0 : List (S45)) (l0_1 : List (S45)) (l0_2 : List (S45)) (a0_3 : Int) (a0_4 : Int) (a1_0 : Int) (a1_1 : Int) : Option (Bool) := (laws_szWindow.f l0_0 l0_1 l0_2 a0_3 a0_4 1048576).bind fun t5b => (if t5b < 0 then (some true) else ((laws_toWindow.f k l0_0 l0_1 l0_2 a0_3 a0_4).bind fun t7b => ((laws_toMap.f a1_0 a1_1).bind fun t26b => ((spec_PushMap.f k t7b.1 t7b.2.1 t7b.2.2.1 t7b.2.2.2.1 t7b.2.2.2.2 t26b.1 t26b.2).bind fun t27b => ((laws_toWindow.f k l0_0 l0_1 l0_2 a0_3 a0_4).bind fun t50b => ((laws_toMap.f a1_0 a1_1).bind fun t72b => ((impl_PushMap.f k t50b.1 t50b.2.1 t50b.2.2.1 t50b.2.2.2.1 t50b.2.2.2.2 t72b.1 t72b.2).bind fun t73b => ((laws_eqWindow.f k t73b.1 t73b.2.1 t73b.2.2.1 t73b.2.2.2.1 t73b.2.2.2.2.1 t27b.1 t27b.2.1 t27b.2.2.1 t27b.2.2.2.1 t27b.2.2.2.2.1).bind fun t96b => (if t96b = true then (if (t73b.2.2.2.2.2 != t27b.2.2.2.2.2) = true then (some false) else ((laws_toWindow.f k l0_0 l0_1 l0_2 a0_3 a0_4).bind fun t99b => ((laws_eqWindow.f k t50b.1 t50b.2.1 t50b.2.2.1 t50b.2.2.2.1 t50b.2.2.2.2 t99b.1 t99b.2.1 t99b.2.2.1 t99b.2.2.2.1 t99b.2.2.2.2).bind fun t118b => (if t118b = true then ((laws_markWindow.f k t50b.1 t50b.2.1 t50b.2.2.1 t50b.2.2.2.1 t50b.2.2.2.2 1).bind fun t120b => (if t120b.1 < 0 then (some false) else ((laws_eqWindow.f k t73b.1 t73b.2.1 t73b.2.2.1 t73b.2.2.2.1 t73b.2.2.2.2.1 t27b.1 t27b.2.1 t27b.2.2.1 t27b.2.2.2.1 t27b.2.2.2.2.1).bind fun t122b => (if t122b = true then (if (t73b.2.2.2.2.2 != t27b.2.2.2.2.2) = true then (some false) else ((laws_markWindow.f k t73b.1 t73b.2.1 t73b.2.2.1 t73b.2.2.2.1 t73b.2.2.2.2.1 1).bind fun t125b => ((laws_heldWindow.f k t125b.2.1 t125b.2.2.1 t125b.2.2.2 t73b.2.2.2.1 t73b.2.2.2.2.1 1).bind fun t126b => (if t126b < 0 then (some false) else (if t126b = t125b.1 then ((laws_toWindow.f k l0_0 l0_1 l0_2 a0_3 a0_4).bind fun t129b => ((laws_toMap.f a1_0 a1_1).bind fun t148b => ((impl_PushMap.f k t129b.1 t129b.2.1 t129b.2.2.1 t129b.2.2.2.1 t129b.2.2.2.2 t148b.1 t148b.2).bind fun t149b => ((laws_eqWindow.f k t149b.1 t149b.2.1 t149b.2.2.1 t149b.2.2.2.1 t149b.2.2.2.2.1 t27b.1 t27b.2.1 t27b.2.2.1 t27b.2.2.2.1 t27b.2.2.2.2.1).bind fun t172b => (if t172b = true then (if (t149b.2.2.2.2.2 != t27b.2.2.2.2.2) = true then (some false) else ((laws_heldWindow.f k t125b.2.1 t125b.2.2.1 t125b.2.2.2 t73b.2.2.2.1 t73b.2.2.2.2.1 1).bind fun t175b => (if t175b < 0 then (some false) else (if t175b = t125b.1 then ((some true)) else (some false))))) else (some false)))))) else (some false)))))) else (some false))))) else (some false))))) else (some false))))))))))
theorem laws_FnExactPushMap.mono : ∀ a0_ a1_ a2_ a3_ a4_ a5_ a6_ k, LeO (laws_FnExactPushMap.f k a0_ a1_ a2_ a3_ a4_ a5_ a6_) (laws_FnExactPushMap.f (k + 1) a0_ a1_ a2_ a3_ a4_ a5_ a6_) := by
 intro a0_ a1_ a2_ a3_ a4_ a5_ a6_ k
 unfold laws_FnExactPushMap.f
 repeat' first
  | (with_reducible exact impl_PushMap.mono _ _ _ _ _ _ _ _)
  | (with_reducible exact laws_eqWindow.mono _ _ _ _ _ _ _ _ _ _ _)
  | (with_reducible exact laws_heldWindow.mono _ _ _ _ _ _ _)
  | (with_reducible exact laws_markWindow.mono _ _ _ _ _ _ _)
  | (with_reducible exact laws_toWindow.mono _ _ _ _ _ _)
  | (with_reducible exact spec_PushMap.mono _ _ _ _ _ _ _ _)
  | (with_reducible exact LeO.refl _)
  | (with_reducible exact LeO.none _)
  | (with_reducible refine LeO.ite ?_ ?_)
  | (with_reducible refine LeO.bind ?_ (fun _ => ?_))
  | exact impl_PushMap.mono _ _ _ _ _ _ _ _
  | exact laws_eqWindow.mono _ _ _ _ _ _ _ _ _ _ _
  | exact laws_heldWindow.mono _ _ _ _ _ _ _
  | exact laws_markWindow.mono _ _ _ _ _ _ _
  | exact laws_toWindow.mono _ _ _ _ _ _
  | exact spec_PushMap.mono _ _ _ _ _ _ _ _
theorem laws_FnExactPushMap.cs2 {w : World} {g t : Nat} {a0 a1 : Value} (h : w.heap[g]? = some (.cells #[a0, a1] t (0, 0))) : w.cell? ⟨g, 0, none⟩ = some a0 ∧ w.frozen? ⟨g, 0, none⟩ = false ∧ w.cell? ⟨g, 1, none⟩ = some a1 ∧ w.frozen? ⟨g, 1, none⟩ = false := ⟨(xc h 0).trans rfl, xf h 0, (xc h 1).trans rfl, xf h 1⟩
theorem laws_FnExactPushMap.cs5 {w : World} {g t : Nat} {a0 a1 a2 a3 a4 : Value} (h : w.heap[g]? = some (.cells #[a0, a1, a2, a3, a4] t (0, 0))) : w.cell? ⟨g, 0, none⟩ = some a0 ∧ w.frozen? ⟨g, 0, none⟩ = false ∧ w.cell? ⟨g, 1, none⟩ = some a1 ∧ w.frozen? ⟨g, 1, none⟩ = false ∧ w.cell? ⟨g, 2, none⟩ = some a2 ∧ w.frozen? ⟨g, 2, none⟩ = false ∧ w.cell? ⟨g, 3, none⟩ = some a3 ∧ w.frozen? ⟨g, 3, none⟩ = false ∧ w.cell? ⟨g, 4, none⟩ = some a4 ∧ w.frozen? ⟨g, 4, none⟩ = false := ⟨(xc h 0).trans rfl, xf h 0, (xc h 1).trans rfl, xf h 1, (xc h 2).trans rfl, xf h 2, (xc h 3).trans rfl, xf h 3, (xc h 4).trans rfl, xf h 4⟩
set_option maxHeartbeats 8000000 in
set_option maxRecDepth 100000 in
theorem laws_FnExactPushMap.calls (k : Nat) (A0_0 : Option Addr) (c0_0 : Nat) (l0_0 : List (S45)) (A0_1 : Option Addr) (c0_1 : Nat) (l0_1 : List (S45)) (A0_2 : Option Addr) (c0_2 : Nat) (l0_2 : List (S45)) (a0_3 : Int) (a0_4 : Int) (a1_0 : Int) (a1_1 : Int) (w : World) (hr0_0 : Kd.C k45 w A0_0 l0_0.length l0_0) (hc0_0 : l0_0.length ≤ c0_0) (hr0_1 : Kd.C k45 w A0_1 l0_1.length l0_1) (hc0_1 : l0_1.length ≤ c0_1) (hr0_2 : Kd.C k45 w A0_2 l0_2.length l0_2) (hc0_2 : l0_2.length ≤ c0_2) (h : laws_FnExactPushMap.f k l0_0 l0_1 l0_2 a0_3 a0_4 a1_0 a1_1 = some true) :
  Calls Try.prog 13 #[.agg #[.slice A0_0 l0_0.length c0_0, .slice A0_1 l0_1.length c0_1, .slice A0_2 l0_2.length c0_2, .int .i64 a0_3, .int .i64 a0_4], .agg #[.int .i64 a1_0, .int .i64 a1_1]] w fun e w' => e = .returned (.bool true) ∧ Below w.heap.size w w' := by
 have hu45 := Try.underlying45
 have hu47 := Try.underlying47
 have hu53 := Try.underlying53
 have HR0_0 := xm hr0_0
 have HC0_0 := xm hc0_0
 clear hr0_0 hc0_0
 have HR0_1 := xm hr0_1
 have HC0_1 := xm hc0_1
 clear hr0_1 hc0_1
 have HR0_2 := xm hr0_2
 have HC0_2 := xm hc0_2
 clear hr0_2 hc0_2
 have HB := xm (Below.refl w.heap.size w)
 unfold laws_FnExactPushMap.f at h
 replace h := Option.bind_eq_some_iff.mp h
 obtain ⟨t5_0, t5A0, h⟩ := h
 (try dsimp only at h)
 have t5A := xm t5A0
 clear t5A0
 by_cases c6 : t5_0 < 0
 ·have c6b := decide_eq_true c6
  clear c6
  clear h
  go_enter Try.func13, Try.ntmps13
  go_wp2_with (first
   | ((with_reducible refine gate_dst (N := 2) rfl ?_); refine box_event ?hgq2 (N := 2) ?hdq2 (cs := #[.slice A0_0 l0_0.length c0_0, .slice A0_1 l0_1.length c0_1, .slice A0_2 l0_2.length c0_2, .int .i64 a0_3, .int .i64 a0_4]) (t := 47) ?hrq2 ?_; (case hdq2 => rfl); (case hgq2 => rfl); (case hrq2 => exact zB); intro g1 hg_ w1_ hbox_ hb_; have Z1 := xm (hb_.size : w.heap.size ≤ w1_.heap.size); have hk_ := Kept.of_below hb_ (fun _ => False); have m0_ := xm (below_step (w := w) HB.out hb_); clear HB; have HB := m0_; have BKg1 := xm hbox_; have GBg1 : Aside0 (w.heap.size ≤ g1 ∧ g1 < w1_.heap.size) := xm ⟨by rw [hg_]; exact Nat.le_refl _, blk_lt hbox_⟩; clear m0_ hb_ hbox_ hg_ hk_; obtain ⟨hcg1_0, hfg1_0, hcg1_1, hfg1_1, hcg1_2, hfg1_2, hcg1_3, hfg1_3, hcg1_4, hfg1_4⟩ := laws_FnExactPushMap.cs5 BKg1.out)
   | ((with_reducible refine gate_dst (N := 3) rfl ?_); refine box_event ?hgq4 (N := 3) ?hdq4 (cs := #[.int .i64 a1_0, .int .i64 a1_1]) (t := 45) ?hrq4 ?_; (case hdq4 => rfl); (case hgq4 => rfl); (case hrq4 => exact zB); intro g3 hg_ w2_ hbox_ hb_; have Z2 := xm (hb_.size : w1_.heap.size ≤ w2_.heap.size); have hk_ := Kept.of_below hb_ (fun _ => False); have m0_ := xm (blk_kept BKg1.out hk_ (fun h_ => h_)); clear BKg1; have BKg1 := m0_; clear m0_; have m0_ := xm (below_step (w := w) HB.out hb_); clear HB; have HB := m0_; have BKg3 := xm hbox_; have GBg3 : Aside0 (w1_.heap.size ≤ g3 ∧ g3 < w2_.heap.size) := xm ⟨by rw [hg_]; exact Nat.le_refl _, blk_lt hbox_⟩; clear m0_ hb_ hbox_ hg_ hk_; clear hcg1_0 hfg1_0 hcg1_1 hfg1_1 hcg1_2 hfg1_2 hcg1_3 hfg1_3 hcg1_4 hfg1_4; obtain ⟨hcg1_0, hfg1_0, hcg1_1, hfg1_1, hcg1_2, hfg1_2, hcg1_3, hfg1_3, hcg1_4, hfg1_4⟩ := laws_FnExactPushMap.cs5 BKg1.out; obtain ⟨hcg3_0, hfg3_0, hcg3_1, hfg3_1⟩ := laws_FnExactPushMap.cs2 BKg3.out)
   | ((with_reducible refine gate_callee (f := 33) rfl ?_); refine goesL_ (some 18) rfl rfl Try.func33 (by kernel_rfl) rfl #[.agg #[.slice A0_0 l0_0.length c0_0, .slice A0_1 l0_1.length c0_1, .slice A0_2 l0_2.length c0_2, .int .i64 a0_3, .int .i64 a0_4], .int .i64 1048576] rfl mB ?_; refine (laws_szWindow.calls _ _ l0_0 _ _ l0_1 _ _ l0_2 a0_3 a0_4 1048576 t5_0 _ (Kd.C_below HR0_0.out HB.out) HC0_0.out (Kd.C_below HR0_1.out HB.out) HC0_1.out (Kd.C_below HR0_2.out HB.out) HC0_2.out t5A.out).mono ?_; rintro e w3_ ⟨rfl, hb_⟩; refine ⟨_, rfl, ?_⟩; have Z3 := xm (hb_.size : w2_.heap.size ≤ w3_.heap.size); have hk_ := Kept.of_below hb_ (fun _ => False); have m0_ := xm (blk_kept BKg1.out hk_ (fun h_ => h_)); have m1_ := xm (blk_kept BKg3.out hk_ (fun h_ => h_)); clear BKg1 BKg3; have BKg1 := m0_; have BKg3 := m1_; clear m0_ m1_; have m0_ := xm (below_step (w := w) HB.out hb_); clear HB; have HB := m0_; clear m0_ hb_ hk_; clear hcg1_0 hfg1_0 hcg1_1 hfg1_1 hcg1_2 hfg1_2 hcg1_3 hfg1_3 hcg1_4 hfg1_4; obtain ⟨hcg1_0, hfg1_0, hcg1_1, hfg1_1, hcg1_2, hfg1_2, hcg1_3, hfg1_3, hcg1_4, hfg1_4⟩ := laws_FnExactPushMap.cs5 BKg1.out; clear hcg3_0 hfg3_0 hcg3_1 hfg3_1; obtain ⟨hcg3_0, hfg3_0, hcg3_1, hfg3_1⟩ := laws_FnExactPushMap.cs2 BKg3.out))
  go_wp2
  go_ret
  exact ⟨by first | rfl | (simp [errW_none, errW_some] <;> rfl) | (simp [*, errW_none, errW_some] <;> rfl), HB.out⟩
 rw [if_neg c6] at h
 have c6b := decide_eq_false c6
 clear c6
 replace h := Option.bind_eq_some_iff.mp h
 obtain ⟨⟨t7_0, t7_1, t7_2, t7_3, t7_4⟩, t7A0, h⟩ := h
 (try dsimp only at h)
 have t7A := xm t7A0
 clear t7A0
 replace h := Option.bind_eq_some_iff.mp h
 obtain ⟨⟨t26_0, t26_1⟩, t26A0, h⟩ := h
 (try dsimp only at h)
 have t26A := xm t26A0
 clear t26A0
 replace h := Option.bind_eq_some_iff.mp h
 obtain ⟨⟨t27_0, t27_1, t27_2, t27_3, t27_4, t27_5⟩, t27A0, h⟩ := h
 (try dsimp only at h)
 have t27A := xm t27A0
 clear t27A0
 replace h := Option.bind_eq_some_iff.mp h
 obtain ⟨⟨t50_0, t50_1, t50_2, t50_3, t50_4⟩, t50A0, h⟩ := h
 (try dsimp only at h)
 have t50A := xm t50A0
 clear t50A0
 replace h := Option.bind_eq_some_iff.mp h
 obtain ⟨⟨t72_0, t72_1⟩, t72A0, h⟩ := h
 (try dsimp only at h)
 have t72A := xm t72A0
 clear t72A0
 replace h := Option.bind_eq_some_iff.mp h
 obtain ⟨⟨t73_0, t73_1, t73_2, t73_3, t73_4, t73_5⟩, t73A0, h⟩ := h
 (try dsimp only at h)
 have t73A := xm t73A0
 clear t73A0
 replace h := Option.bind_eq_some_iff.mp h
 obtain ⟨t96_0, t96A0, h⟩ := h
 (try dsimp only at h)
 have t96A := xm t96A0
 clear t96A0
 replace h := law_t h
 obtain ⟨c97, h⟩ := h
 subst c97
 replace h := law_f h
 obtain ⟨c98, h⟩ := h
 have c98b0 : (t73_5 != t27_5) = false := by simpa using c98
 have c98b1 : decide (t73_5 = t27_5) = true := by simpa using c98
 have c98b2 : (t73_5 == t27_5) = true := by simpa using c98
 clear c98
 replace h := Option.bind_eq_some_iff.mp h
 obtain ⟨⟨t99_0, t99_1, t99_2, t99_3, t99_4⟩, t99A0, h⟩ := h
 (try dsimp only at h)
 have t99A := xm t99A0
 clear t99A0
 replace h := Option.bind_eq_some_iff.mp h
 obtain ⟨t118_0, t118A0, h⟩ := h
 (try dsimp only at h)
 have t118A := xm t118A0
 clear t118A0
 replace h := law_t h
 obtain ⟨c119, h⟩ := h
 subst c119
 replace h := Option.bind_eq_some_iff.mp h
 obtain ⟨⟨t120_0, t120_1, t120_2, t120_3⟩, t120A0, h⟩ := h
 (try dsimp only at h)
 have t120A := xm t120A0
 clear t120A0
 replace h := law_f h
 obtain ⟨c121, h⟩ := h
 have c121b := decide_eq_false c121
 clear c121
 replace h := Option.bind_eq_some_iff.mp h
 obtain ⟨t122_0, t122A0, h⟩ := h
 (try dsimp only at h)
 have t122A := xm t122A0
 clear t122A0
 replace h := law_t h
 obtain ⟨c123, h⟩ := h
 subst c123
 replace h := law_f h
 obtain ⟨c124, h⟩ := h
 have c124b0 : (t73_5 != t27_5) = false := by simpa using c124
 have c124b1 : decide (t73_5 = t27_5) = true := by simpa using c124
 have c124b2 : (t73_5 == t27_5) = true := by simpa using c124
 clear c124
 replace h := Option.bind_eq_some_iff.mp h
 obtain ⟨⟨t125_0, t125_1, t125_2, t125_3⟩, t125A0, h⟩ := h
 (try dsimp only at h)
 have t125A := xm t125A0
 clear t125A0
 replace h := Option.bind_eq_some_iff.mp h
 obtain ⟨t126_0, t126A0, h⟩ := h
 (try dsimp only at h)
 have t126A := xm t126A0
 clear t126A0
 replace h := law_f h
 obtain ⟨c127, h⟩ := h
 have c127b := decide_eq_false c127
 clear c127
 replace h := law_t h
 obtain ⟨c128, h⟩ := h
 have c128b0 : (t126_0 == t125_0) = true := beq_iff_eq.mpr c128
 have c128b1 : (t126_0 != t125_0) = false := bne_eq_false_iff_eq.mpr c128
 have c128b2 : decide (t126_0 = t125_0) = true := decide_eq_true c128
 clear c128
 replace h := Option.bind_eq_some_iff.mp h
 obtain ⟨⟨t129_0, t129_1, t129_2, t129_3, t129_4⟩, t129A0, h⟩ := h
 (try dsimp only at h)
 have t129A := xm t129A0
 clear t129A0
 replace h := Option.bind_eq_some_iff.mp h
 obtain ⟨⟨t148_0, t148_1⟩, t148A0, h⟩ := h
 (try dsimp only at h)
 have t148A := xm t148A0
 clear t148A0
 replace h := Option.bind_eq_some_iff.mp h
 obtain ⟨⟨t149_0, t149_1, t149_2, t149_3, t149_4, t149_5⟩, t149A0, h⟩ := h
 (try dsimp only at h)
 have t149A := xm t149A0
 clear t149A0
 replace h := Option.bind_eq_some_iff.mp h
 obtain ⟨t172_0, t172A0, h⟩ := h
 (try dsimp only at h)
 have t172A := xm t172A0
 clear t172A0
 replace h := law_t h
 obtain ⟨c173, h⟩ := h
 subst c173
 replace h := law_f h
 obtain ⟨c174, h⟩ := h
 have c174b0 : (t149_5 != t27_5) = false := by simpa using c174
 have c174b1 : decide (t149_5 = t27_5) = true := by simpa using c174
 have c174b2 : (t149_5 == t27_5) = true := by simpa using c174
 clear c174
 replace h := Option.bind_eq_some_iff.mp h
 obtain ⟨t175_0, t175A0, h⟩ := h
 (try dsimp only at h)
 have t175A := xm t175A0
 clear t175A0
 replace h := law_f h
 obtain ⟨c176, h⟩ := h
 have c176b := decide_eq_false c176
 clear c176
 replace h := law_t h
 obtain ⟨c177, h⟩ := h
 have c177b0 : (t175_0 == t125_0) = true := beq_iff_eq.mpr c177
 have c177b1 : (t175_0 != t125_0) = false := bne_eq_false_iff_eq.mpr c177
 have c177b2 : decide (t175_0 = t125_0) = true := decide_eq_true c177
 clear c177
 clear h
 go_enter Try.func13, Try.ntmps13
 go_wp2_with (first
  | ((with_reducible refine gate_dst (N := 2) rfl ?_); refine box_event ?hgq2 (N := 2) ?hdq2 (cs := #[.slice A0_0 l0_0.length c0_0, .slice A0_1 l0_1.length c0_1, .slice A0_2 l0_2.length c0_2, .int .i64 a0_3, .int .i64 a0_4]) (t := 47) ?hrq2 ?_; (case hdq2 => rfl); (case hgq2 => rfl); (case hrq2 => exact zB); intro g1 hg_ w1_ hbox_ hb_; have Z1 := xm (hb_.size : w.heap.size ≤ w1_.heap.size); have hk_ := Kept.of_below hb_ (fun _ => False); have m0_ := xm (below_step (w := w) HB.out hb_); clear HB; have HB := m0_; have BKg1 := xm hbox_; have GBg1 : Aside0 (w.heap.size ≤ g1 ∧ g1 < w1_.heap.size) := xm ⟨by rw [hg_]; exact Nat.le_refl _, blk_lt hbox_⟩; clear m0_ hb_ hbox_ hg_ hk_; obtain ⟨hcg1_0, hfg1_0, hcg1_1, hfg1_1, hcg1_2, hfg1_2, hcg1_3, hfg1_3, hcg1_4, hfg1_4⟩ := laws_FnExactPushMap.cs5 BKg1.out)
  | ((with_reducible refine gate_dst (N := 3) rfl ?_); refine box_event ?hgq4 (N := 3) ?hdq4 (cs := #[.int .i64 a1_0, .int .i64 a1_1]) (t := 45) ?hrq4 ?_; (case hdq4 => rfl); (case hgq4 => rfl); (case hrq4 => exact zB); intro g3 hg_ w2_ hbox_ hb_; have Z2 := xm (hb_.size : w1_.heap.size ≤ w2_.heap.size); have hk_ := Kept.of_below hb_ (fun _ => False); have m0_ := xm (blk_kept BKg1.out hk_ (fun h_ => h_)); clear BKg1; have BKg1 := m0_; clear m0_; have m0_ := xm (below_step (w := w) HB.out hb_); clear HB; have HB := m0_; have BKg3 := xm hbox_; have GBg3 : Aside0 (w1_.heap.size ≤ g3 ∧ g3 < w2_.heap.size) := xm ⟨by rw [hg_]; exact Nat.le_refl _, blk_lt hbox_⟩; clear m0_ hb_ hbox_ hg_ hk_; clear hcg1_0 hfg1_0 hcg1_1 hfg1_1 hcg1_2 hfg1_2 hcg1_3 hfg1_3 hcg1_4 hfg1_4; obtain ⟨hcg1_0, hfg1_0, hcg1_1, hfg1_1, hcg1_2, hfg1_2, hcg1_3, hfg1_3, hcg1_4, hfg1_4⟩ := laws_FnExactPushMap.cs5 BKg1.out; obtain ⟨hcg3_0, hfg3_0, hcg3_1, hfg3_1⟩ := laws_FnExactPushMap.cs2 BKg3.out)
  | ((with_reducible refine gate_callee (f := 33) rfl ?_); refine goesL_ (some 18) rfl rfl Try.func33 (by kernel_rfl) rfl #[.agg #[.slice A0_0 l0_0.length c0_0, .slice A0_1 l0_1.length c0_1, .slice A0_2 l0_2.length c0_2, .int .i64 a0_3, .int .i64 a0_4], .int .i64 1048576] rfl mB ?_; refine (laws_szWindow.calls _ _ l0_0 _ _ l0_1 _ _ l0_2 a0_3 a0_4 1048576 t5_0 _ (Kd.C_below HR0_0.out HB.out) HC0_0.out (Kd.C_below HR0_1.out HB.out) HC0_1.out (Kd.C_below HR0_2.out HB.out) HC0_2.out t5A.out).mono ?_; rintro e w3_ ⟨rfl, hb_⟩; refine ⟨_, rfl, ?_⟩; have Z3 := xm (hb_.size : w2_.heap.size ≤ w3_.heap.size); have hk_ := Kept.of_below hb_ (fun _ => False); have m0_ := xm (blk_kept BKg1.out hk_ (fun h_ => h_)); have m1_ := xm (blk_kept BKg3.out hk_ (fun h_ => h_)); clear BKg1 BKg3; have BKg1 := m0_; have BKg3 := m1_; clear m0_ m1_; have m0_ := xm (below_step (w := w) HB.out hb_); clear HB; have HB := m0_; clear m0_ hb_ hk_; clear hcg1_0 hfg1_0 hcg1_1 hfg1_1 hcg1_2 hfg1_2 hcg1_3 hfg1_3 hcg1_4 hfg1_4; obtain ⟨hcg1_0, hfg1_0, hcg1_1, hfg1_1, hcg1_2, hfg1_2, hcg1_3, hfg1_3, hcg1_4, hfg1_4⟩ := laws_FnExactPushMap.cs5 BKg1.out; clear hcg3_0 hfg3_0 hcg3_1 hfg3_1; obtain ⟨hcg3_0, hfg3_0, hcg3_1, hfg3_1⟩ := laws_FnExactPushMap.cs2 BKg3.out))
 have hk_ := Kept.drew (Kept.refl w3_ (fun _ => False))
 have m0_ := xm (blk_kept BKg1.out hk_ (fun h_ => h_))
 have m1_ := xm (blk_kept BKg3.out hk_ (fun h_ => h_))
 clear BKg1 BKg3
 have BKg1 := m0_
 have BKg3 := m1_
 clear m0_ m1_
 have m0_ := xm (xd HB.out)
 clear HB hk_
 have HB := m0_
 clear m0_
 have Z4 : Aside0 (w3_.heap.size ≤ w3_.drew.heap.size) := xm (Nat.le_refl _)
 refine start_ (n := 11) (S := fun w' => w'.cell? ⟨g1, 0, none⟩ = some (.slice A0_0 l0_0.length c0_0) ∧ w'.cell? ⟨g1, 1, none⟩ = some (.slice A0_1 l0_1.length c0_1) ∧ w'.cell? ⟨g1, 2, none⟩ = some (.slice A0_2 l0_2.length c0_2) ∧ w'.cell? ⟨g1, 3, none⟩ = some (.int .i64 a0_3) ∧ w'.cell? ⟨g1, 4, none⟩ = some (.int .i64 a0_4) ∧ w'.cell? ⟨g3, 0, none⟩ = some (.int .i64 a1_0) ∧ w'.cell? ⟨g3, 1, none⟩ = some (.int .i64 a1_1)) (ds := []) #[Z,Z,Z,Z,Z,Z,Z,Z,Z,Z,Z] (by kernel_rfl) rfl rfl ⟨((xc BKg1.out 0).trans rfl), ((xc BKg1.out 1).trans rfl), ((xc BKg1.out 2).trans rfl), ((xc BKg1.out 3).trans rfl), ((xc BKg1.out 4).trans rfl), ((xc BKg3.out 0).trans rfl), ((xc BKg3.out 1).trans rfl)⟩ (fun hHeld => ?_)
 generalize w3_.drew = w4_ at BKg1 BKg3 Z4 HB hHeld ⊢
 refine tx 0 11 1 rfl rfl (by kernel_rfl) hHeld (by rintro w' ⟨s0, s1, s2, s3, s4, s5, s6⟩; go_simp; with_reducible rfl) ?_
 refine tx 2 11 5 rfl rfl (by kernel_rfl) hHeld (by rintro w' ⟨s0, s1, s2, s3, s4, s5, s6⟩; go_simp; with_reducible rfl) ?_
 refine join_ (σ := Value × Value × Value × Value × Value × Value × Value) 2 #[Y,Y,Y,Y,Y,Y,Y,Y,Y,Z,Z] (fun s_ => [(23, s_.1), (25, s_.2.1), (26, s_.2.2.1), (6, s_.2.2.2.1), (21, s_.2.2.2.2.1), (27, s_.2.2.2.2.2.1), (28, s_.2.2.2.2.2.2)]) (fun s_ w' => ∃ (g46 n47 n48 : Nat) (A28 : Option Addr) (c29 : Nat) (A34 : Option Addr) (c35 : Nat) (A40 : Option Addr) (c41 : Nat) (P31 : Nat → Prop) (P37 : Nat → Prop) (P43 : Nat → Prop), s_.2.2.1 = .tuple #[.agg #[.slice A28 t27_0.length c29, .slice A34 t27_1.length c35, .slice A40 t27_2.length c41, .int .i64 t27_3, .int .i64 t27_4], .bool t27_5] ∧ s_.2.2.2.1 = .pointer (some ⟨g46, 0, none⟩) ∧ s_.2.2.2.2.1 = .tuple #[.agg #[.slice A28 t27_0.length c29, .slice A34 t27_1.length c35, .slice A40 t27_2.length c41, .int .i64 t27_3, .int .i64 t27_4], .bool t27_5] ∧ s_.2.2.2.2.2.1 = .agg #[.slice A28 t27_0.length c29, .slice A34 t27_1.length c35, .slice A40 t27_2.length c41, .int .i64 t27_3, .int .i64 t27_4] ∧ s_.2.2.2.2.2.2 = .bool t27_5 ∧ w'.heap[g46]? = some (.cells #[.slice none 0 0, .slice none 0 0, .slice none 0 0, .int .i64 0, .int .i64 0] 53 (0, 0)) ∧ Below w4_.heap.size w4_ w' ∧ (w4_.heap.size ≤ g46 ∧ g46 < w'.heap.size ∧ w4_.heap.size ≤ n47 ∧ n47 ≤ n48 ∧ n48 ≤ w'.heap.size ∧ (g46 < n47 ∨ n48 ≤ g46)) ∧ Kd.R k51 51 w' w.heap.size P31 (.slice A28 t27_0.length c29) t27_0 ∧ (∀ k_, P31 k_ → n47 ≤ k_ ∧ k_ < n48) ∧ (∀ k_, P31 k_ → some k_ = (.slice A28 t27_0.length c29 : Value).ownBlock ∧ (some k_ ≠ (.slice A34 t27_1.length c35 : Value).ownBlock ∧ some k_ ≠ (.slice A40 t27_2.length c41 : Value).ownBlock)) ∧ Kd.R k51 51 w' w.heap.size P37 (.slice A34 t27_1.length c35) t27_1 ∧ (∀ k_, P37 k_ → n47 ≤ k_ ∧ k_ < n48) ∧ (∀ k_, P37 k_ → some k_ = (.slice A34 t27_1.length c35 : Value).ownBlock ∧ (some k_ ≠ (.slice A28 t27_0.length c29 : Value).ownBlock ∧ some k_ ≠ (.slice A40 t27_2.length c41 : Value).ownBlock)) ∧ Kd.R k51 51 w' w.heap.size P43 (.slice A40 t27_2.length c41) t27_2 ∧ (∀ k_, P43 k_ → n47 ≤ k_ ∧ k_ < n48) ∧ (∀ k_, P43 k_ → some k_ = (.slice A40 t27_2.length c41 : Value).ownBlock ∧ (some k_ ≠ (.slice A28 t27_0.length c29 : Value).ownBlock ∧ some k_ ≠ (.slice A34 t27_1.length c35 : Value).ownBlock))) ?_ (fun hJ => ?_)
 rotate_left
 ·have HL := xm (Below.refl w4_.heap.size w4_)
  refine two_ (i := 1) (j := 8) (Ni := some 23) (Nj := some 6) #[Y,Y,Y,Z,Z,Z,Z,Z,Z,Z,Z] #[Y,Z,Y,Z,Z,Z,Z,Z,Y,Z,Z] rfl rfl rfl rfl (by kernel_rfl) (by decide) (by decide) (fun K hK => ?_) (fun K hK => ?_)
  ·refine goes_ Try.func35 (by kernel_rfl) rfl #[.agg #[.slice A0_0 l0_0.length c0_0, .slice A0_1 l0_1.length c0_1, .slice A0_2 l0_2.length c0_2, .int .i64 a0_3, .int .i64 a0_4]] (by rfl) rfl rfl mB ?_
   refine (laws_toWindow.calls k _ _ l0_0 _ _ l0_1 _ _ l0_2 a0_3 a0_4 t7_0 t7_1 t7_2 t7_3 t7_4 _ (Kd.C_below (Kd.C_below HR0_0.out HB.out) HL.out) HC0_0.out (Kd.C_below (Kd.C_below HR0_1.out HB.out) HL.out) HC0_1.out (Kd.C_below (Kd.C_below HR0_2.out HB.out) HL.out) HC0_2.out t7A.out).mono ?_
   rintro e wl3_ ⟨v0_, v1_, v2_, rfl, h0_, h1_, h2_, hb_⟩
   refine ⟨_, rfl, ?_⟩
   obtain ⟨A8, c9, rfl⟩ := Kd.R_slice h0_
   obtain ⟨A14, c15, rfl⟩ := Kd.R_slice h1_
   obtain ⟨A20, c21, rfl⟩ := Kd.R_slice h2_
   have F10 := xm h0_
   have F16 := xm h1_
   have F22 := xm h2_
   have ml_ := xm (below_step HL.out hb_)
   clear HL
   have HL := ml_
   clear ml_
   clear h0_ h1_ h2_
   clear hb_
   refine hK.out _ _ ⟨(pw_cell_below HL.out ((xc BKg1.out 0).trans rfl)), (pw_cell_below HL.out ((xc BKg1.out 1).trans rfl)), (pw_cell_below HL.out ((xc BKg1.out 2).trans rfl)), (pw_cell_below HL.out ((xc BKg1.out 3).trans rfl)), (pw_cell_below HL.out ((xc BKg1.out 4).trans rfl)), (pw_cell_below HL.out ((xc BKg3.out 0).trans rfl)), (pw_cell_below HL.out ((xc BKg3.out 1).trans rfl))⟩ (fun hHeld => ?_)
   clear hK K
   refine norm_ (a' := ?_) ?_ ?_
   rotate_left
   ·show Act.put _ (some 23) _ = _
    simp only [Act.put, xi, xj, xk, i64_w, i32_w]
    rfl
   refine two_ (i := 3) (j := 8) (Ni := some 25) (Nj := some 6) #[Y,Y,Y,Y,Z,Z,Z,Z,Z,Z,Z] #[Y,Y,Y,Z,Z,Z,Z,Z,Y,Z,Z] rfl rfl rfl rfl (by kernel_rfl) (by decide) (by decide) (fun K hK => ?_) (fun K hK => ?_)
   ·refine goes_ Try.func69 (by kernel_rfl) rfl #[.agg #[.int .i64 a1_0, .int .i64 a1_1]] (by rfl) rfl rfl mB ?_
    refine (laws_toMap.calls a1_0 a1_1 t26_0 t26_1 _ t26A.out).mono ?_
    rintro e wl4_ ⟨rfl, hb_⟩
    refine ⟨_, rfl, ?_⟩
    have ml_ := xm (below_step HL.out hb_)
    clear HL
    have HL := ml_
    clear ml_
    have mk_ := xm (Kd.R_below F10.out hb_)
    clear F10
    have F10 := mk_
    clear mk_
    have mk_ := xm (Kd.R_below F16.out hb_)
    clear F16
    have F16 := mk_
    clear mk_
    have mk_ := xm (Kd.R_below F22.out hb_)
    clear F22
    have F22 := mk_
    clear mk_
    clear hb_
    refine hK.out _ _ ⟨(pw_cell_below HL.out ((xc BKg1.out 0).trans rfl)), (pw_cell_below HL.out ((xc BKg1.out 1).trans rfl)), (pw_cell_below HL.out ((xc BKg1.out 2).trans rfl)), (pw_cell_below HL.out ((xc BKg1.out 3).trans rfl)), (pw_cell_below HL.out ((xc BKg1.out 4).trans rfl)), (pw_cell_below HL.out ((xc BKg3.out 0).trans rfl)), (pw_cell_below HL.out ((xc BKg3.out 1).trans rfl))⟩ (fun hHeld => ?_)
    clear hK K
    refine norm_ (a' := ?_) ?_ ?_
    rotate_left
    ·show Act.put _ (some 25) _ = _
     simp only [Act.put, xi, xj, xk, i64_w, i32_w]
     rfl
    refine two_ (i := 4) (j := 8) (Ni := some 26) (Nj := some 6) #[Y,Y,Y,Y,Y,Z,Z,Z,Z,Z,Z] #[Y,Y,Y,Y,Z,Z,Z,Z,Y,Z,Z] rfl rfl rfl rfl (by kernel_rfl) (by decide) (by decide) (fun K hK => ?_) (fun K hK => ?_)
    ·refine goes_ Try.func68 (by kernel_rfl) rfl #[.agg #[.slice A8 t7_0.length c9, .slice A14 t7_1.length c15, .slice A20 t7_2.length c21, .int .i64 t7_3, .int .i64 t7_4], .agg #[.int .i64 t26_0, .int .i64 t26_1]] (by rfl) rfl rfl mB ?_
     refine (spec_PushMap.calls k _ _ t7_0 _ _ t7_1 _ _ t7_2 t7_3 t7_4 t26_0 t26_1 t27_0 t27_1 t27_2 t27_3 t27_4 t27_5 _ (Kd.R_reads' F10.out).2.2 (Kd.R_reads' F10.out).2.1 (Kd.R_reads' F16.out).2.2 (Kd.R_reads' F16.out).2.1 (Kd.R_reads' F22.out).2.2 (Kd.R_reads' F22.out).2.1 t27A.out).mono ?_
     rintro e wl5_ ⟨v0_, v1_, v2_, rfl, h0_, h1_, h2_, hb_⟩
     refine ⟨_, rfl, ?_⟩
     obtain ⟨A28, c29, rfl⟩ := Kd.R_slice h0_
     obtain ⟨A34, c35, rfl⟩ := Kd.R_slice h1_
     obtain ⟨A40, c41, rfl⟩ := Kd.R_slice h2_
     obtain ⟨P31, p1_, p2_, p3_⟩ := hideT (base := w.heap.size) rfl h0_ (Nat.le_trans HB.out.size HL.out.size)
     have F30 := xm p1_
     have B32 := xm p2_
     have T33 := xm p3_
     clear p1_ p2_ p3_
     obtain ⟨P37, p1_, p2_, p3_⟩ := hideT (base := w.heap.size) rfl h1_ (Nat.le_trans HB.out.size HL.out.size)
     have F36 := xm p1_
     have B38 := xm p2_
     have T39 := xm p3_
     clear p1_ p2_ p3_
     obtain ⟨P43, p1_, p2_, p3_⟩ := hideT (base := w.heap.size) rfl h2_ (Nat.le_trans HB.out.size HL.out.size)
     have F42 := xm p1_
     have B44 := xm p2_
     have T45 := xm p3_
     clear p1_ p2_ p3_
     have HP_ := xm HL.out.size
     have GL_ := xm (Nat.le_refl 0)
     have ml_ := xm (below_step HL.out hb_)
     clear HL
     have HL := ml_
     clear ml_
     clear h0_ h1_ h2_
     have mk_ := xm (Kd.R_below F10.out hb_)
     clear F10
     have F10 := mk_
     clear mk_
     have mk_ := xm (Kd.R_below F16.out hb_)
     clear F16
     have F16 := mk_
     clear mk_
     have mk_ := xm (Kd.R_below F22.out hb_)
     clear F22
     have F22 := mk_
     clear mk_
     obtain ⟨nlo_, hnlo_⟩ : ∃ q_, q_ = wl4_.heap.size := ⟨_, rfl⟩
     obtain ⟨nhi_, hnhi_⟩ : ∃ q_, q_ = wl5_.heap.size := ⟨_, rfl⟩
     have mB_ : Aside0 (∀ k_, P31 k_ → nlo_ ≤ k_ ∧ k_ < nhi_) := xm (by rw [hnlo_, hnhi_]; exact B32.out)
     clear B32
     have B32 := mB_
     clear mB_
     have mB_ : Aside0 (∀ k_, P37 k_ → nlo_ ≤ k_ ∧ k_ < nhi_) := xm (by rw [hnlo_, hnhi_]; exact B38.out)
     clear B38
     have B38 := mB_
     clear mB_
     have mB_ : Aside0 (∀ k_, P43 k_ → nlo_ ≤ k_ ∧ k_ < nhi_) := xm (by rw [hnlo_, hnhi_]; exact B44.out)
     clear B44
     have B44 := mB_
     clear mB_
     have ZL : Aside0 (w4_.heap.size ≤ nlo_ ∧ nlo_ ≤ nhi_ ∧ nhi_ ≤ wl5_.heap.size) := xm (by have z1_ := HP_.out; have z2_ := hb_.size; omega)
     clear hnlo_ hnhi_
     clear hb_
     refine hK.out _ _ ⟨(pw_cell_below HL.out ((xc BKg1.out 0).trans rfl)), (pw_cell_below HL.out ((xc BKg1.out 1).trans rfl)), (pw_cell_below HL.out ((xc BKg1.out 2).trans rfl)), (pw_cell_below HL.out ((xc BKg1.out 3).trans rfl)), (pw_cell_below HL.out ((xc BKg1.out 4).trans rfl)), (pw_cell_below HL.out ((xc BKg3.out 0).trans rfl)), (pw_cell_below HL.out ((xc BKg3.out 1).trans rfl))⟩ (fun hHeld => ?_)
     clear hK K
     refine norm_ (a' := ?_) ?_ ?_
     rotate_left
     ·show Act.put _ (some 26) _ = _
      simp only [Act.put, xi, xj, xk, i64_w, i32_w]
      rfl
     refine px 5 11 63 (by kernel_rfl) ?_
     refine px 6 11 127 (by kernel_rfl) ?_
     refine px 7 11 255 (by kernel_rfl) ?_
     refine one_ (i := 8) (N := some 6) #[Y,Y,Y,Y,Y,Y,Y,Y,Y,Z,Z] rfl rfl (by kernel_rfl) (by decide) (fun K hK => ?_)
     refine value_ (v := .pointer (some ⟨wl5_.heap.size, 0, none⟩)) (w1 := wl5_.alloc (.cells #[.slice none 0 0, .slice none 0 0, .slice none 0 0, .int .i64 0, .int .i64 0] 53 (0, 0))) (by rfl) rfl zB ?_
     obtain ⟨wl9_, gq_, hgq_, hwq_, hbq_⟩ : ∃ (W_ : World) (g_ : Nat), g_ = wl5_.heap.size ∧ W_ = wl5_.alloc (.cells #[.slice none 0 0, .slice none 0 0, .slice none 0 0, .int .i64 0, .int .i64 0] 53 (0, 0)) ∧ True := ⟨_, _, rfl, rfl, trivial⟩
     rw [← hwq_, ← hgq_]
     have hb_ : Below wl5_.heap.size wl5_ wl9_ := by rw [hwq_]; exact xa (Below.refl _ _) _
     have BQ : Aside0 (wl9_.heap[gq_]? = some (.cells #[.slice none 0 0, .slice none 0 0, .slice none 0 0, .int .i64 0, .int .i64 0] 53 (0, 0))) := xm (by rw [hwq_, hgq_]; exact blk_new _ _)
     have ZQ : Aside0 (w4_.heap.size ≤ gq_ ∧ gq_ < wl9_.heap.size ∧ w4_.heap.size ≤ nlo_ ∧ nlo_ ≤ nhi_ ∧ nhi_ ≤ wl9_.heap.size ∧ (gq_ < nlo_ ∨ nhi_ ≤ gq_)) := xm (by have z1_ := ZL.out; have z2_ := hb_.size; have z3_ := blk_lt BQ.out; have z4_ := HL.out.size; omega)
     have ml_ := xm (below_step HL.out hb_)
     clear HL
     have HL := ml_
     clear ml_
     have mk_ := xm (Kd.R_below F10.out hb_)
     clear F10
     have F10 := mk_
     clear mk_
     have mk_ := xm (Kd.R_below F16.out hb_)
     clear F16
     have F16 := mk_
     clear mk_
     have mk_ := xm (Kd.R_below F22.out hb_)
     clear F22
     have F22 := mk_
     clear mk_
     have mk_ := xm (Kd.R_below F30.out hb_)
     clear F30
     have F30 := mk_
     clear mk_
     have mk_ := xm (Kd.R_below F36.out hb_)
     clear F36
     have F36 := mk_
     clear mk_
     have mk_ := xm (Kd.R_below F42.out hb_)
     clear F42
     have F42 := mk_
     clear mk_
     clear hb_ hgq_ hwq_ hbq_
     refine hK.out _ _ ⟨(pw_cell_below HL.out ((xc BKg1.out 0).trans rfl)), (pw_cell_below HL.out ((xc BKg1.out 1).trans rfl)), (pw_cell_below HL.out ((xc BKg1.out 2).trans rfl)), (pw_cell_below HL.out ((xc BKg1.out 3).trans rfl)), (pw_cell_below HL.out ((xc BKg1.out 4).trans rfl)), (pw_cell_below HL.out ((xc BKg3.out 0).trans rfl)), (pw_cell_below HL.out ((xc BKg3.out 1).trans rfl))⟩ (fun hHeld => ?_)
     clear hK K
     refine norm_ (a' := ?_) ?_ ?_
     rotate_left
     ·show Act.put _ (some 6) _ = _
      simp only [Act.put, xi, xj, xk, i64_w, i32_w]
      rfl
     exact norm_ pB (hJ (.agg #[.slice A8 t7_0.length c9, .slice A14 t7_1.length c15, .slice A20 t7_2.length c21, .int .i64 t7_3, .int .i64 t7_4], .agg #[.int .i64 t26_0, .int .i64 t26_1], .tuple #[.agg #[.slice A28 t27_0.length c29, .slice A34 t27_1.length c35, .slice A40 t27_2.length c41, .int .i64 t27_3, .int .i64 t27_4], .bool t27_5], .pointer (some ⟨gq_, 0, none⟩), .tuple #[.agg #[.slice A28 t27_0.length c29, .slice A34 t27_1.length c35, .slice A40 t27_2.length c41, .int .i64 t27_3, .int .i64 t27_4], .bool t27_5], .agg #[.slice A28 t27_0.length c29, .slice A34 t27_1.length c35, .slice A40 t27_2.length c41, .int .i64 t27_3, .int .i64 t27_4], .bool t27_5) _ ⟨gq_, nlo_, nhi_, A28, c29, A34, c35, A40, c41, P31, P37, P43, rfl, rfl, rfl, rfl, rfl, BQ.out, HL.out, ZQ.out, F30.out, B32.out, T33.out, F36.out, B38.out, T39.out, F42.out, B44.out, T45.out⟩)
    ·refine value_ (v := .pointer (some ⟨wl4_.heap.size, 0, none⟩)) (w1 := wl4_.alloc (.cells #[.slice none 0 0, .slice none 0 0, .slice none 0 0, .int .i64 0, .int .i64 0] 53 (0, 0))) (by rfl) rfl zB ?_
     obtain ⟨wl5_, gq_, hgq_, hwq_, hbq_⟩ : ∃ (W_ : World) (g_ : Nat), g_ = wl4_.heap.size ∧ W_ = wl4_.alloc (.cells #[.slice none 0 0, .slice none 0 0, .slice none 0 0, .int .i64 0, .int .i64 0] 53 (0, 0)) ∧ True := ⟨_, _, rfl, rfl, trivial⟩
     rw [← hwq_, ← hgq_]
     have hb_ : Below wl4_.heap.size wl4_ wl5_ := by rw [hwq_]; exact xa (Below.refl _ _) _
     have BQ : Aside0 (wl5_.heap[gq_]? = some (.cells #[.slice none 0 0, .slice none 0 0, .slice none 0 0, .int .i64 0, .int .i64 0] 53 (0, 0))) := xm (by rw [hwq_, hgq_]; exact blk_new _ _)
     have GQ := xm (show w4_.heap.size ≤ gq_ ∧ gq_ < wl5_.heap.size from ⟨by rw [hgq_]; exact HL.out.size, blk_lt BQ.out⟩)
     have ml_ := xm (below_step HL.out hb_)
     clear HL
     have HL := ml_
     clear ml_
     have mk_ := xm (Kd.R_below F10.out hb_)
     clear F10
     have F10 := mk_
     clear mk_
     have mk_ := xm (Kd.R_below F16.out hb_)
     clear F16
     have F16 := mk_
     clear mk_
     have mk_ := xm (Kd.R_below F22.out hb_)
     clear F22
     have F22 := mk_
     clear mk_
     clear hb_ hgq_ hwq_ hbq_
     refine hK.out _ _ ⟨(pw_cell_below HL.out ((xc BKg1.out 0).trans rfl)), (pw_cell_below HL.out ((xc BKg1.out 1).trans rfl)), (pw_cell_below HL.out ((xc BKg1.out 2).trans rfl)), (pw_cell_below HL.out ((xc BKg1.out 3).trans rfl)), (pw_cell_below HL.out ((xc BKg1.out 4).trans rfl)), (pw_cell_below HL.out ((xc BKg3.out 0).trans rfl)), (pw_cell_below HL.out ((xc BKg3.out 1).trans rfl))⟩ (fun hHeld => ?_)
     clear hK K
     refine norm_ (a' := ?_) ?_ ?_
     rotate_left
     ·show Act.put _ (some 6) _ = _
      simp only [Act.put, xi, xj, xk, i64_w, i32_w]
      rfl
     refine one_ (i := 4) (N := some 26) #[Y,Y,Y,Y,Y,Z,Z,Z,Y,Z,Z] rfl rfl (by kernel_rfl) (by decide) (fun K hK => ?_)
     refine goes_ Try.func68 (by kernel_rfl) rfl #[.agg #[.slice A8 t7_0.length c9, .slice A14 t7_1.length c15, .slice A20 t7_2.length c21, .int .i64 t7_3, .int .i64 t7_4], .agg #[.int .i64 t26_0, .int .i64 t26_1]] (by rfl) rfl rfl mB ?_
     refine (spec_PushMap.calls k _ _ t7_0 _ _ t7_1 _ _ t7_2 t7_3 t7_4 t26_0 t26_1 t27_0 t27_1 t27_2 t27_3 t27_4 t27_5 _ (Kd.R_reads' F10.out).2.2 (Kd.R_reads' F10.out).2.1 (Kd.R_reads' F16.out).2.2 (Kd.R_reads' F16.out).2.1 (Kd.R_reads' F22.out).2.2 (Kd.R_reads' F22.out).2.1 t27A.out).mono ?_
     rintro e wl6_ ⟨v0_, v1_, v2_, rfl, h0_, h1_, h2_, hb_⟩
     refine ⟨_, rfl, ?_⟩
     obtain ⟨A28, c29, rfl⟩ := Kd.R_slice h0_
     obtain ⟨A34, c35, rfl⟩ := Kd.R_slice h1_
     obtain ⟨A40, c41, rfl⟩ := Kd.R_slice h2_
     obtain ⟨P31, p1_, p2_, p3_⟩ := hideT (base := w.heap.size) rfl h0_ (Nat.le_trans HB.out.size HL.out.size)
     have F30 := xm p1_
     have B32 := xm p2_
     have T33 := xm p3_
     clear p1_ p2_ p3_
     obtain ⟨P37, p1_, p2_, p3_⟩ := hideT (base := w.heap.size) rfl h1_ (Nat.le_trans HB.out.size HL.out.size)
     have F36 := xm p1_
     have B38 := xm p2_
     have T39 := xm p3_
     clear p1_ p2_ p3_
     obtain ⟨P43, p1_, p2_, p3_⟩ := hideT (base := w.heap.size) rfl h2_ (Nat.le_trans HB.out.size HL.out.size)
     have F42 := xm p1_
     have B44 := xm p2_
     have T45 := xm p3_
     clear p1_ p2_ p3_
     have HP_ := xm HL.out.size
     have GL_ := xm (Nat.le_refl 0)
     have ml_ := xm (below_step HL.out hb_)
     clear HL
     have HL := ml_
     clear ml_
     clear h0_ h1_ h2_
     have GL_ := xm (blk_lt BQ.out)
     have mq_ := xm (blk_below BQ.out hb_)
     clear BQ
     have BQ := mq_
     clear mq_
     have mk_ := xm (Kd.R_below F10.out hb_)
     clear F10
     have F10 := mk_
     clear mk_
     have mk_ := xm (Kd.R_below F16.out hb_)
     clear F16
     have F16 := mk_
     clear mk_
     have mk_ := xm (Kd.R_below F22.out hb_)
     clear F22
     have F22 := mk_
     clear mk_
     obtain ⟨nlo_, hnlo_⟩ : ∃ q_, q_ = wl5_.heap.size := ⟨_, rfl⟩
     obtain ⟨nhi_, hnhi_⟩ : ∃ q_, q_ = wl6_.heap.size := ⟨_, rfl⟩
     have mB_ : Aside0 (∀ k_, P31 k_ → nlo_ ≤ k_ ∧ k_ < nhi_) := xm (by rw [hnlo_, hnhi_]; exact B32.out)
     clear B32
     have B32 := mB_
     clear mB_
     have mB_ : Aside0 (∀ k_, P37 k_ → nlo_ ≤ k_ ∧ k_ < nhi_) := xm (by rw [hnlo_, hnhi_]; exact B38.out)
     clear B38
     have B38 := mB_
     clear mB_
     have mB_ : Aside0 (∀ k_, P43 k_ → nlo_ ≤ k_ ∧ k_ < nhi_) := xm (by rw [hnlo_, hnhi_]; exact B44.out)
     clear B44
     have B44 := mB_
     clear mB_
     have ZQ : Aside0 (w4_.heap.size ≤ gq_ ∧ gq_ < wl6_.heap.size ∧ w4_.heap.size ≤ nlo_ ∧ nlo_ ≤ nhi_ ∧ nhi_ ≤ wl6_.heap.size ∧ (gq_ < nlo_ ∨ nhi_ ≤ gq_)) := xm (by have z1_ := GL_.out; have z2_ := hb_.size; have z3_ := GQ.out; have z4_ := blk_lt BQ.out; have z5_ := HP_.out; omega)
     clear hnlo_ hnhi_
     clear hb_
     refine hK.out _ _ ⟨(pw_cell_below HL.out ((xc BKg1.out 0).trans rfl)), (pw_cell_below HL.out ((xc BKg1.out 1).trans rfl)), (pw_cell_below HL.out ((xc BKg1.out 2).trans rfl)), (pw_cell_below HL.out ((xc BKg1.out 3).trans rfl)), (pw_cell_below HL.out ((xc BKg1.out 4).trans rfl)), (pw_cell_below HL.out ((xc BKg3.out 0).trans rfl)), (pw_cell_below HL.out ((xc BKg3.out 1).trans rfl))⟩ (fun hHeld => ?_)
     clear hK K
     refine norm_ (a' := ?_) ?_ ?_
     rotate_left
     ·show Act.put _ (some 26) _ = _
      simp only [Act.put, xi, xj, xk, i64_w, i32_w]
      rfl
     refine px 5 11 319 (by kernel_rfl) ?_
     refine px 6 11 383 (by kernel_rfl) ?_
     refine px 7 11 511 (by kernel_rfl) ?_
     exact norm_ pB (hJ (.agg #[.slice A8 t7_0.length c9, .slice A14 t7_1.length c15, .slice A20 t7_2.length c21, .int .i64 t7_3, .int .i64 t7_4], .agg #[.int .i64 t26_0, .int .i64 t26_1], .tuple #[.agg #[.slice A28 t27_0.length c29, .slice A34 t27_1.length c35, .slice A40 t27_2.length c41, .int .i64 t27_3, .int .i64 t27_4], .bool t27_5], .pointer (some ⟨gq_, 0, none⟩), .tuple #[.agg #[.slice A28 t27_0.length c29, .slice A34 t27_1.length c35, .slice A40 t27_2.length c41, .int .i64 t27_3, .int .i64 t27_4], .bool t27_5], .agg #[.slice A28 t27_0.length c29, .slice A34 t27_1.length c35, .slice A40 t27_2.length c41, .int .i64 t27_3, .int .i64 t27_4], .bool t27_5) _ ⟨gq_, nlo_, nhi_, A28, c29, A34, c35, A40, c41, P31, P37, P43, rfl, rfl, rfl, rfl, rfl, BQ.out, HL.out, ZQ.out, F30.out, B32.out, T33.out, F36.out, B38.out, T39.out, F42.out, B44.out, T45.out⟩)
   ·refine value_ (v := .pointer (some ⟨wl3_.heap.size, 0, none⟩)) (w1 := wl3_.alloc (.cells #[.slice none 0 0, .slice none 0 0, .slice none 0 0, .int .i64 0, .int .i64 0] 53 (0, 0))) (by rfl) rfl zB ?_
    obtain ⟨wl4_, gq_, hgq_, hwq_, hbq_⟩ : ∃ (W_ : World) (g_ : Nat), g_ = wl3_.heap.size ∧ W_ = wl3_.alloc (.cells #[.slice none 0 0, .slice none 0 0, .slice none 0 0, .int .i64 0, .int .i64 0] 53 (0, 0)) ∧ True := ⟨_, _, rfl, rfl, trivial⟩
    rw [← hwq_, ← hgq_]
    have hb_ : Below wl3_.heap.size wl3_ wl4_ := by rw [hwq_]; exact xa (Below.refl _ _) _
    have BQ : Aside0 (wl4_.heap[gq_]? = some (.cells #[.slice none 0 0, .slice none 0 0, .slice none 0 0, .int .i64 0, .int .i64 0] 53 (0, 0))) := xm (by rw [hwq_, hgq_]; exact blk_new _ _)
    have GQ := xm (show w4_.heap.size ≤ gq_ ∧ gq_ < wl4_.heap.size from ⟨by rw [hgq_]; exact HL.out.size, blk_lt BQ.out⟩)
    have ml_ := xm (below_step HL.out hb_)
    clear HL
    have HL := ml_
    clear ml_
    have mk_ := xm (Kd.R_below F10.out hb_)
    clear F10
    have F10 := mk_
    clear mk_
    have mk_ := xm (Kd.R_below F16.out hb_)
    clear F16
    have F16 := mk_
    clear mk_
    have mk_ := xm (Kd.R_below F22.out hb_)
    clear F22
    have F22 := mk_
    clear mk_
    clear hb_ hgq_ hwq_ hbq_
    refine hK.out _ _ ⟨(pw_cell_below HL.out ((xc BKg1.out 0).trans rfl)), (pw_cell_below HL.out ((xc BKg1.out 1).trans rfl)), (pw_cell_below HL.out ((xc BKg1.out 2).trans rfl)), (pw_cell_below HL.out ((xc BKg1.out 3).trans rfl)), (pw_cell_below HL.out ((xc BKg1.out 4).trans rfl)), (pw_cell_below HL.out ((xc BKg3.out 0).trans rfl)), (pw_cell_below HL.out ((xc BKg3.out 1).trans rfl))⟩ (fun hHeld => ?_)
    clear hK K
    refine norm_ (a' := ?_) ?_ ?_
    rotate_left
    ·show Act.put _ (some 6) _ = _
     simp only [Act.put, xi, xj, xk, i64_w, i32_w]
     rfl
    refine one_ (i := 3) (N := some 25) #[Y,Y,Y,Y,Z,Z,Z,Z,Y,Z,Z] rfl rfl (by kernel_rfl) (by decide) (fun K hK => ?_)
    refine goes_ Try.func69 (by kernel_rfl) rfl #[.agg #[.int .i64 a1_0, .int .i64 a1_1]] (by rfl) rfl rfl mB ?_
    refine (laws_toMap.calls a1_0 a1_1 t26_0 t26_1 _ t26A.out).mono ?_
    rintro e wl5_ ⟨rfl, hb_⟩
    refine ⟨_, rfl, ?_⟩
    have ml_ := xm (below_step HL.out hb_)
    clear HL
    have HL := ml_
    clear ml_
    have GL_ := xm (blk_lt BQ.out)
    have mq_ := xm (blk_below BQ.out hb_)
    clear BQ
    have BQ := mq_
    clear mq_
    have mk_ := xm (Kd.R_below F10.out hb_)
    clear F10
    have F10 := mk_
    clear mk_
    have mk_ := xm (Kd.R_below F16.out hb_)
    clear F16
    have F16 := mk_
    clear mk_
    have mk_ := xm (Kd.R_below F22.out hb_)
    clear F22
    have F22 := mk_
    clear mk_
    clear hb_
    refine hK.out _ _ ⟨(pw_cell_below HL.out ((xc BKg1.out 0).trans rfl)), (pw_cell_below HL.out ((xc BKg1.out 1).trans rfl)), (pw_cell_below HL.out ((xc BKg1.out 2).trans rfl)), (pw_cell_below HL.out ((xc BKg1.out 3).trans rfl)), (pw_cell_below HL.out ((xc BKg1.out 4).trans rfl)), (pw_cell_below HL.out ((xc BKg3.out 0).trans rfl)), (pw_cell_below HL.out ((xc BKg3.out 1).trans rfl))⟩ (fun hHeld => ?_)
    clear hK K
    refine norm_ (a' := ?_) ?_ ?_
    rotate_left
    ·show Act.put _ (some 25) _ = _
     simp only [Act.put, xi, xj, xk, i64_w, i32_w]
     rfl
    refine one_ (i := 4) (N := some 26) #[Y,Y,Y,Y,Y,Z,Z,Z,Y,Z,Z] rfl rfl (by kernel_rfl) (by decide) (fun K hK => ?_)
    refine goes_ Try.func68 (by kernel_rfl) rfl #[.agg #[.slice A8 t7_0.length c9, .slice A14 t7_1.length c15, .slice A20 t7_2.length c21, .int .i64 t7_3, .int .i64 t7_4], .agg #[.int .i64 t26_0, .int .i64 t26_1]] (by rfl) rfl rfl mB ?_
    refine (spec_PushMap.calls k _ _ t7_0 _ _ t7_1 _ _ t7_2 t7_3 t7_4 t26_0 t26_1 t27_0 t27_1 t27_2 t27_3 t27_4 t27_5 _ (Kd.R_reads' F10.out).2.2 (Kd.R_reads' F10.out).2.1 (Kd.R_reads' F16.out).2.2 (Kd.R_reads' F16.out).2.1 (Kd.R_reads' F22.out).2.2 (Kd.R_reads' F22.out).2.1 t27A.out).mono ?_
    rintro e wl6_ ⟨v0_, v1_, v2_, rfl, h0_, h1_, h2_, hb_⟩
    refine ⟨_, rfl, ?_⟩
    obtain ⟨A28, c29, rfl⟩ := Kd.R_slice h0_
    obtain ⟨A34, c35, rfl⟩ := Kd.R_slice h1_
    obtain ⟨A40, c41, rfl⟩ := Kd.R_slice h2_
    obtain ⟨P31, p1_, p2_, p3_⟩ := hideT (base := w.heap.size) rfl h0_ (Nat.le_trans HB.out.size HL.out.size)
    have F30 := xm p1_
    have B32 := xm p2_
    have T33 := xm p3_
    clear p1_ p2_ p3_
    obtain ⟨P37, p1_, p2_, p3_⟩ := hideT (base := w.heap.size) rfl h1_ (Nat.le_trans HB.out.size HL.out.size)
    have F36 := xm p1_
    have B38 := xm p2_
    have T39 := xm p3_
    clear p1_ p2_ p3_
    obtain ⟨P43, p1_, p2_, p3_⟩ := hideT (base := w.heap.size) rfl h2_ (Nat.le_trans HB.out.size HL.out.size)
    have F42 := xm p1_
    have B44 := xm p2_
    have T45 := xm p3_
    clear p1_ p2_ p3_
    have HP_ := xm HL.out.size
    have GL_ := xm (Nat.le_refl 0)
    have ml_ := xm (below_step HL.out hb_)
    clear HL
    have HL := ml_
    clear ml_
    clear h0_ h1_ h2_
    have GL_ := xm (blk_lt BQ.out)
    have mq_ := xm (blk_below BQ.out hb_)
    clear BQ
    have BQ := mq_
    clear mq_
    have mk_ := xm (Kd.R_below F10.out hb_)
    clear F10
    have F10 := mk_
    clear mk_
    have mk_ := xm (Kd.R_below F16.out hb_)
    clear F16
    have F16 := mk_
    clear mk_
    have mk_ := xm (Kd.R_below F22.out hb_)
    clear F22
    have F22 := mk_
    clear mk_
    obtain ⟨nlo_, hnlo_⟩ : ∃ q_, q_ = wl5_.heap.size := ⟨_, rfl⟩
    obtain ⟨nhi_, hnhi_⟩ : ∃ q_, q_ = wl6_.heap.size := ⟨_, rfl⟩
    have mB_ : Aside0 (∀ k_, P31 k_ → nlo_ ≤ k_ ∧ k_ < nhi_) := xm (by rw [hnlo_, hnhi_]; exact B32.out)
    clear B32
    have B32 := mB_
    clear mB_
    have mB_ : Aside0 (∀ k_, P37 k_ → nlo_ ≤ k_ ∧ k_ < nhi_) := xm (by rw [hnlo_, hnhi_]; exact B38.out)
    clear B38
    have B38 := mB_
    clear mB_
    have mB_ : Aside0 (∀ k_, P43 k_ → nlo_ ≤ k_ ∧ k_ < nhi_) := xm (by rw [hnlo_, hnhi_]; exact B44.out)
    clear B44
    have B44 := mB_
    clear mB_
    have ZQ : Aside0 (w4_.heap.size ≤ gq_ ∧ gq_ < wl6_.heap.size ∧ w4_.heap.size ≤ nlo_ ∧ nlo_ ≤ nhi_ ∧ nhi_ ≤ wl6_.heap.size ∧ (gq_ < nlo_ ∨ nhi_ ≤ gq_)) := xm (by have z1_ := GL_.out; have z2_ := hb_.size; have z3_ := GQ.out; have z4_ := blk_lt BQ.out; have z5_ := HP_.out; omega)
    clear hnlo_ hnhi_
    clear hb_
    refine hK.out _ _ ⟨(pw_cell_below HL.out ((xc BKg1.out 0).trans rfl)), (pw_cell_below HL.out ((xc BKg1.out 1).trans rfl)), (pw_cell_below HL.out ((xc BKg1.out 2).trans rfl)), (pw_cell_below HL.out ((xc BKg1.out 3).trans rfl)), (pw_cell_below HL.out ((xc BKg1.out 4).trans rfl)), (pw_cell_below HL.out ((xc BKg3.out 0).trans rfl)), (pw_cell_below HL.out ((xc BKg3.out 1).trans rfl))⟩ (fun hHeld => ?_)
    clear hK K
    refine norm_ (a' := ?_) ?_ ?_
    rotate_left
    ·show Act.put _ (some 26) _ = _
     simp only [Act.put, xi, xj, xk, i64_w, i32_w]
     rfl
    refine px 5 11 319 (by kernel_rfl) ?_
    refine px 6 11 383 (by kernel_rfl) ?_
    refine px 7 11 511 (by kernel_rfl) ?_
    exact norm_ pB (hJ (.agg #[.slice A8 t7_0.length c9, .slice A14 t7_1.length c15, .slice A20 t7_2.length c21, .int .i64 t7_3, .int .i64 t7_4], .agg #[.int .i64 t26_0, .int .i64 t26_1], .tuple #[.agg #[.slice A28 t27_0.length c29, .slice A34 t27_1.length c35, .slice A40 t27_2.length c41, .int .i64 t27_3, .int .i64 t27_4], .bool t27_5], .pointer (some ⟨gq_, 0, none⟩), .tuple #[.agg #[.slice A28 t27_0.length c29, .slice A34 t27_1.length c35, .slice A40 t27_2.length c41, .int .i64 t27_3, .int .i64 t27_4], .bool t27_5], .agg #[.slice A28 t27_0.length c29, .slice A34 t27_1.length c35, .slice A40 t27_2.length c41, .int .i64 t27_3, .int .i64 t27_4], .bool t27_5) _ ⟨gq_, nlo_, nhi_, A28, c29, A34, c35, A40, c41, P31, P37, P43, rfl, rfl, rfl, rfl, rfl, BQ.out, HL.out, ZQ.out, F30.out, B32.out, T33.out, F36.out, B38.out, T39.out, F42.out, B44.out, T45.out⟩)
  ·refine value_ (v := .pointer (some ⟨w4_.heap.size, 0, none⟩)) (w1 := w4_.alloc (.cells #[.slice none 0 0, .slice none 0 0, .slice none 0 0, .int .i64 0, .int .i64 0] 53 (0, 0))) (by rfl) rfl zB ?_
   obtain ⟨wl3_, gq_, hgq_, hwq_, hbq_⟩ : ∃ (W_ : World) (g_ : Nat), g_ = w4_.heap.size ∧ W_ = w4_.alloc (.cells #[.slice none 0 0, .slice none 0 0, .slice none 0 0, .int .i64 0, .int .i64 0] 53 (0, 0)) ∧ True := ⟨_, _, rfl, rfl, trivial⟩
   rw [← hwq_, ← hgq_]
   have hb_ : Below w4_.heap.size w4_ wl3_ := by rw [hwq_]; exact xa (Below.refl _ _) _
   have BQ : Aside0 (wl3_.heap[gq_]? = some (.cells #[.slice none 0 0, .slice none 0 0, .slice none 0 0, .int .i64 0, .int .i64 0] 53 (0, 0))) := xm (by rw [hwq_, hgq_]; exact blk_new _ _)
   have GQ := xm (show w4_.heap.size ≤ gq_ ∧ gq_ < wl3_.heap.size from ⟨by rw [hgq_]; exact HL.out.size, blk_lt BQ.out⟩)
   have ml_ := xm (below_step HL.out hb_)
   clear HL
   have HL := ml_
   clear ml_
   clear hb_ hgq_ hwq_ hbq_
   refine hK.out _ _ ⟨(pw_cell_below HL.out ((xc BKg1.out 0).trans rfl)), (pw_cell_below HL.out ((xc BKg1.out 1).trans rfl)), (pw_cell_below HL.out ((xc BKg1.out 2).trans rfl)), (pw_cell_below HL.out ((xc BKg1.out 3).trans rfl)), (pw_cell_below HL.out ((xc BKg1.out 4).trans rfl)), (pw_cell_below HL.out ((xc BKg3.out 0).trans rfl)), (pw_cell_below HL.out ((xc BKg3.out 1).trans rfl))⟩ (fun hHeld => ?_)
   clear hK K
   refine norm_ (a' := ?_) ?_ ?_
   rotate_left
   ·show Act.put _ (some 6) _ = _
    simp only [Act.put, xi, xj, xk, i64_w, i32_w]
    rfl
   refine one_ (i := 1) (N := some 23) #[Y,Y,Y,Z,Z,Z,Z,Z,Y,Z,Z] rfl rfl (by kernel_rfl) (by decide) (fun K hK => ?_)
   refine goes_ Try.func35 (by kernel_rfl) rfl #[.agg #[.slice A0_0 l0_0.length c0_0, .slice A0_1 l0_1.length c0_1, .slice A0_2 l0_2.length c0_2, .int .i64 a0_3, .int .i64 a0_4]] (by rfl) rfl rfl mB ?_
   refine (laws_toWindow.calls k _ _ l0_0 _ _ l0_1 _ _ l0_2 a0_3 a0_4 t7_0 t7_1 t7_2 t7_3 t7_4 _ (Kd.C_below (Kd.C_below HR0_0.out HB.out) HL.out) HC0_0.out (Kd.C_below (Kd.C_below HR0_1.out HB.out) HL.out) HC0_1.out (Kd.C_below (Kd.C_below HR0_2.out HB.out) HL.out) HC0_2.out t7A.out).mono ?_
   rintro e wl4_ ⟨v0_, v1_, v2_, rfl, h0_, h1_, h2_, hb_⟩
   refine ⟨_, rfl, ?_⟩
   obtain ⟨A8, c9, rfl⟩ := Kd.R_slice h0_
   obtain ⟨A14, c15, rfl⟩ := Kd.R_slice h1_
   obtain ⟨A20, c21, rfl⟩ := Kd.R_slice h2_
   have F10 := xm h0_
   have F16 := xm h1_
   have F22 := xm h2_
   have ml_ := xm (below_step HL.out hb_)
   clear HL
   have HL := ml_
   clear ml_
   clear h0_ h1_ h2_
   have GL_ := xm (blk_lt BQ.out)
   have mq_ := xm (blk_below BQ.out hb_)
   clear BQ
   have BQ := mq_
   clear mq_
   clear hb_
   refine hK.out _ _ ⟨(pw_cell_below HL.out ((xc BKg1.out 0).trans rfl)), (pw_cell_below HL.out ((xc BKg1.out 1).trans rfl)), (pw_cell_below HL.out ((xc BKg1.out 2).trans rfl)), (pw_cell_below HL.out ((xc BKg1.out 3).trans rfl)), (pw_cell_below HL.out ((xc BKg1.out 4).trans rfl)), (pw_cell_below HL.out ((xc BKg3.out 0).trans rfl)), (pw_cell_below HL.out ((xc BKg3.out 1).trans rfl))⟩ (fun hHeld => ?_)
   clear hK K
   refine norm_ (a' := ?_) ?_ ?_
   rotate_left
   ·show Act.put _ (some 23) _ = _
    simp only [Act.put, xi, xj, xk, i64_w, i32_w]
    rfl
   refine one_ (i := 3) (N := some 25) #[Y,Y,Y,Y,Z,Z,Z,Z,Y,Z,Z] rfl rfl (by kernel_rfl) (by decide) (fun K hK => ?_)
   refine goes_ Try.func69 (by kernel_rfl) rfl #[.agg #[.int .i64 a1_0, .int .i64 a1_1]] (by rfl) rfl rfl mB ?_
   refine (laws_toMap.calls a1_0 a1_1 t26_0 t26_1 _ t26A.out).mono ?_
   rintro e wl5_ ⟨rfl, hb_⟩
   refine ⟨_, rfl, ?_⟩
   have ml_ := xm (below_step HL.out hb_)
   clear HL
   have HL := ml_
   clear ml_
   have GL_ := xm (blk_lt BQ.out)
   have mq_ := xm (blk_below BQ.out hb_)
   clear BQ
   have BQ := mq_
   clear mq_
   have mk_ := xm (Kd.R_below F10.out hb_)
   clear F10
   have F10 := mk_
   clear mk_
   have mk_ := xm (Kd.R_below F16.out hb_)
   clear F16
   have F16 := mk_
   clear mk_
   have mk_ := xm (Kd.R_below F22.out hb_)
   clear F22
   have F22 := mk_
   clear mk_
   clear hb_
   refine hK.out _ _ ⟨(pw_cell_below HL.out ((xc BKg1.out 0).trans rfl)), (pw_cell_below HL.out ((xc BKg1.out 1).trans rfl)), (pw_cell_below HL.out ((xc BKg1.out 2).trans rfl)), (pw_cell_below HL.out ((xc BKg1.out 3).trans rfl)), (pw_cell_below HL.out ((xc BKg1.out 4).trans rfl)), (pw_cell_below HL.out ((xc BKg3.out 0).trans rfl)), (pw_cell_below HL.out ((xc BKg3.out 1).trans rfl))⟩ (fun hHeld => ?_)
   clear hK K
   refine norm_ (a' := ?_) ?_ ?_
   rotate_left
   ·show Act.put _ (some 25) _ = _
    simp only [Act.put, xi, xj, xk, i64_w, i32_w]
    rfl
   refine one_ (i := 4) (N := some 26) #[Y,Y,Y,Y,Y,Z,Z,Z,Y,Z,Z] rfl rfl (by kernel_rfl) (by decide) (fun K hK => ?_)
   refine goes_ Try.func68 (by kernel_rfl) rfl #[.agg #[.slice A8 t7_0.length c9, .slice A14 t7_1.length c15, .slice A20 t7_2.length c21, .int .i64 t7_3, .int .i64 t7_4], .agg #[.int .i64 t26_0, .int .i64 t26_1]] (by rfl) rfl rfl mB ?_
   refine (spec_PushMap.calls k _ _ t7_0 _ _ t7_1 _ _ t7_2 t7_3 t7_4 t26_0 t26_1 t27_0 t27_1 t27_2 t27_3 t27_4 t27_5 _ (Kd.R_reads' F10.out).2.2 (Kd.R_reads' F10.out).2.1 (Kd.R_reads' F16.out).2.2 (Kd.R_reads' F16.out).2.1 (Kd.R_reads' F22.out).2.2 (Kd.R_reads' F22.out).2.1 t27A.out).mono ?_
   rintro e wl6_ ⟨v0_, v1_, v2_, rfl, h0_, h1_, h2_, hb_⟩
   refine ⟨_, rfl, ?_⟩
   obtain ⟨A28, c29, rfl⟩ := Kd.R_slice h0_
   obtain ⟨A34, c35, rfl⟩ := Kd.R_slice h1_
   obtain ⟨A40, c41, rfl⟩ := Kd.R_slice h2_
   obtain ⟨P31, p1_, p2_, p3_⟩ := hideT (base := w.heap.size) rfl h0_ (Nat.le_trans HB.out.size HL.out.size)
   have F30 := xm p1_
   have B32 := xm p2_
   have T33 := xm p3_
   clear p1_ p2_ p3_
   obtain ⟨P37, p1_, p2_, p3_⟩ := hideT (base := w.heap.size) rfl h1_ (Nat.le_trans HB.out.size HL.out.size)
   have F36 := xm p1_
   have B38 := xm p2_
   have T39 := xm p3_
   clear p1_ p2_ p3_
   obtain ⟨P43, p1_, p2_, p3_⟩ := hideT (base := w.heap.size) rfl h2_ (Nat.le_trans HB.out.size HL.out.size)
   have F42 := xm p1_
   have B44 := xm p2_
   have T45 := xm p3_
   clear p1_ p2_ p3_
   have HP_ := xm HL.out.size
   have GL_ := xm (Nat.le_refl 0)
   have ml_ := xm (below_step HL.out hb_)
   clear HL
   have HL := ml_
   clear ml_
   clear h0_ h1_ h2_
   have GL_ := xm (blk_lt BQ.out)
   have mq_ := xm (blk_below BQ.out hb_)
   clear BQ
   have BQ := mq_
   clear mq_
   have mk_ := xm (Kd.R_below F10.out hb_)
   clear F10
   have F10 := mk_
   clear mk_
   have mk_ := xm (Kd.R_below F16.out hb_)
   clear F16
   have F16 := mk_
   clear mk_
   have mk_ := xm (Kd.R_below F22.out hb_)
   clear F22
   have F22 := mk_
   clear mk_
   obtain ⟨nlo_, hnlo_⟩ : ∃ q_, q_ = wl5_.heap.size := ⟨_, rfl⟩
   obtain ⟨nhi_, hnhi_⟩ : ∃ q_, q_ = wl6_.heap.size := ⟨_, rfl⟩
   have mB_ : Aside0 (∀ k_, P31 k_ → nlo_ ≤ k_ ∧ k_ < nhi_) := xm (by rw [hnlo_, hnhi_]; exact B32.out)
   clear B32
   have B32 := mB_
   clear mB_
   have mB_ : Aside0 (∀ k_, P37 k_ → nlo_ ≤ k_ ∧ k_ < nhi_) := xm (by rw [hnlo_, hnhi_]; exact B38.out)
   clear B38
   have B38 := mB_
   clear mB_
   have mB_ : Aside0 (∀ k_, P43 k_ → nlo_ ≤ k_ ∧ k_ < nhi_) := xm (by rw [hnlo_, hnhi_]; exact B44.out)
   clear B44
   have B44 := mB_
   clear mB_
   have ZQ : Aside0 (w4_.heap.size ≤ gq_ ∧ gq_ < wl6_.heap.size ∧ w4_.heap.size ≤ nlo_ ∧ nlo_ ≤ nhi_ ∧ nhi_ ≤ wl6_.heap.size ∧ (gq_ < nlo_ ∨ nhi_ ≤ gq_)) := xm (by have z1_ := GL_.out; have z2_ := hb_.size; have z3_ := GQ.out; have z4_ := blk_lt BQ.out; have z5_ := HP_.out; omega)
   clear hnlo_ hnhi_
   clear hb_
   refine hK.out _ _ ⟨(pw_cell_below HL.out ((xc BKg1.out 0).trans rfl)), (pw_cell_below HL.out ((xc BKg1.out 1).trans rfl)), (pw_cell_below HL.out ((xc BKg1.out 2).trans rfl)), (pw_cell_below HL.out ((xc BKg1.out 3).trans rfl)), (pw_cell_below HL.out ((xc BKg1.out 4).trans rfl)), (pw_cell_below HL.out ((xc BKg3.out 0).trans rfl)), (pw_cell_below HL.out ((xc BKg3.out 1).trans rfl))⟩ (fun hHeld => ?_)
   clear hK K
   refine norm_ (a' := ?_) ?_ ?_
   rotate_left
   ·show Act.put _ (some 26) _ = _
    simp only [Act.put, xi, xj, xk, i64_w, i32_w]
    rfl
   refine px 5 11 319 (by kernel_rfl) ?_
   refine px 6 11 383 (by kernel_rfl) ?_
   refine px 7 11 511 (by kernel_rfl) ?_
   exact norm_ pB (hJ (.agg #[.slice A8 t7_0.length c9, .slice A14 t7_1.length c15, .slice A20 t7_2.length c21, .int .i64 t7_3, .int .i64 t7_4], .agg #[.int .i64 t26_0, .int .i64 t26_1], .tuple #[.agg #[.slice A28 t27_0.length c29, .slice A34 t27_1.length c35, .slice A40 t27_2.length c41, .int .i64 t27_3, .int .i64 t27_4], .bool t27_5], .pointer (some ⟨gq_, 0, none⟩), .tuple #[.agg #[.slice A28 t27_0.length c29, .slice A34 t27_1.length c35, .slice A40 t27_2.length c41, .int .i64 t27_3, .int .i64 t27_4], .bool t27_5], .agg #[.slice A28 t27_0.length c29, .slice A34 t27_1.length c35, .slice A40 t27_2.length c41, .int .i64 t27_3, .int .i64 t27_4], .bool t27_5) _ ⟨gq_, nlo_, nhi_, A28, c29, A34, c35, A40, c41, P31, P37, P43, rfl, rfl, rfl, rfl, rfl, BQ.out, HL.out, ZQ.out, F30.out, B32.out, T33.out, F36.out, B38.out, T39.out, F42.out, B44.out, T45.out⟩)
 intro s_ w5_ hF_
 obtain ⟨v0_, v1_, v2_, v3_, v4_, v5_, v6_⟩ := s_
 (try dsimp only at hF_)
 obtain ⟨g46, n47, n48, A28, c29, A34, c35, A40, c41, P31, P37, P43, e1_, e2_, e3_, e4_, e5_, hbk_, hb_, hz_, hr0_, hp0_, ht0_, hr1_, hp1_, ht1_, hr2_, hp2_, ht2_⟩ := hF_
 subst e1_ e2_ e3_ e4_ e5_
 have ZJ5 := xm hz_
 have Z5 := xm (hb_.size : w4_.heap.size ≤ w5_.heap.size)
 have hk_ := Kept.of_below hb_ (fun _ => False)
 have m0_ := xm (blk_kept BKg1.out hk_ (fun h_ => h_))
 have m1_ := xm (blk_kept BKg3.out hk_ (fun h_ => h_))
 clear BKg1 BKg3
 have BKg1 := m0_
 have BKg3 := m1_
 clear m0_ m1_
 have m0_ := xm (below_step (w := w) HB.out hb_)
 clear HB
 have HB := m0_
 clear m0_
 have BKg46 := xm hbk_
 have GBg46 : Aside0 (w4_.heap.size ≤ g46 ∧ g46 < w5_.heap.size) := xm ⟨hz_.1, hz_.2.1⟩
 have F30 := xm hr0_
 have B32 := xm hp0_
 have T33 := xm ht0_
 have F36 := xm hr1_
 have B38 := xm hp1_
 have T39 := xm ht1_
 have F42 := xm hr2_
 have B44 := xm hp2_
 have T45 := xm ht2_
 clear hbk_ hb_ hz_ hk_ hr0_ hp0_ ht0_ hr1_ hp1_ ht1_ hr2_ hp2_ ht2_
 refine norm_ (a' := ?_) ?_ ?_
 rotate_left
 ·simp only [putAll, Act.put, xi, xj, xk]
  rfl
 obtain ⟨hcg46_0, hfg46_0, hcg46_1, hfg46_1, hcg46_2, hfg46_2, hcg46_3, hfg46_3, hcg46_4, hfg46_4⟩ := laws_FnExactPushMap.cs5 BKg46.out
 refine one_ (i := 9) (N := none) #[Y,Y,Y,Y,Y,Y,Y,Y,Y,Y,Z] rfl rfl (by kernel_rfl) (by decide) (fun K hK => ?_)
 refine skip_ (by rfl) rfl (w1 := (((((w5_.setCell ⟨g46, 0, none⟩ (.slice A28 t27_0.length c29)).setCell ⟨g46, 1, none⟩ (.slice A34 t27_1.length c35)).setCell ⟨g46, 2, none⟩ (.slice A40 t27_2.length c41)).setCell ⟨g46, 3, none⟩ (.int .i64 t27_3)).setCell ⟨g46, 4, none⟩ (.int .i64 t27_4))) zB ?_
 obtain ⟨w6_, hw_⟩ : ∃ W_ : World, W_ = (((((w5_.setCell ⟨g46, 0, none⟩ (.slice A28 t27_0.length c29)).setCell ⟨g46, 1, none⟩ (.slice A34 t27_1.length c35)).setCell ⟨g46, 2, none⟩ (.slice A40 t27_2.length c41)).setCell ⟨g46, 3, none⟩ (.int .i64 t27_3)).setCell ⟨g46, 4, none⟩ (.int .i64 t27_4)) := ⟨_, rfl⟩
 rw [← hw_]
 clear hcg46_0 hfg46_0 hcg46_1 hfg46_1 hcg46_2 hfg46_2 hcg46_3 hfg46_3 hcg46_4 hfg46_4
 have hk_ : Kept w5_ w6_ (fun k_ => k_ = g46) := (by rw [hw_]; exact kept_box (kept_box (kept_box (kept_box (kept_box (Kept.refl _ _) _ _) _ _) _ _) _ _) _ _)
 have hx_ : w6_.heap[g46]? = some (.cells #[.slice A28 t27_0.length c29, .slice A34 t27_1.length c35, .slice A40 t27_2.length c41, .int .i64 t27_3, .int .i64 t27_4] 53 (0, 0)) := (by rw [hw_]; refine blk_put (cs := #[.slice A28 t27_0.length c29, .slice A34 t27_1.length c35, .slice A40 t27_2.length c41, .int .i64 t27_3, .int .i64 0]) ?_ 4 _ rfl; refine blk_put (cs := #[.slice A28 t27_0.length c29, .slice A34 t27_1.length c35, .slice A40 t27_2.length c41, .int .i64 0, .int .i64 0]) ?_ 3 _ rfl; refine blk_put (cs := #[.slice A28 t27_0.length c29, .slice A34 t27_1.length c35, .slice none 0 0, .int .i64 0, .int .i64 0]) ?_ 2 _ rfl; refine blk_put (cs := #[.slice A28 t27_0.length c29, .slice none 0 0, .slice none 0 0, .int .i64 0, .int .i64 0]) ?_ 1 _ rfl; refine blk_put (cs := #[.slice none 0 0, .slice none 0 0, .slice none 0 0, .int .i64 0, .int .i64 0]) ?_ 0 _ rfl; exact BKg46.out)
 have Z6 := xm (hk_.1 : w5_.heap.size ≤ w6_.heap.size)
 have ge_ : w.heap.size ≤ g46 := (by have := GBg46.out; have := Z1.out; have := Z2.out; have := Z3.out; have := Z4.out; have := ZJ5.out; omega)
 have mb_ : Aside0 (Below w.heap.size w w6_) := xm (by rw [hw_]; exact xt (xt (xt (xt (xt (HB.out) ge_) ge_) ge_) ge_) ge_)
 have hk2_ := (Kept.mono hk_ (S' := fun k_ => g46 ≤ k_ ∧ k_ < g46 + 1) (fun k_ h_ => by have h_ : k_ = g46 := h_; exact ⟨by omega, by omega⟩))
 have m0_ := xm (Kd.R_kept F30.out hk2_ (fun k_ h_ h2_ => by have u1_ := B32.out k_ h_; have u2_ : g46 ≤ k_ ∧ k_ < g46 + 1 := h2_; have := ZJ5.out; omega))
 have m1_ := xm (Kd.R_kept F36.out hk2_ (fun k_ h_ h2_ => by have u1_ := B38.out k_ h_; have u2_ : g46 ≤ k_ ∧ k_ < g46 + 1 := h2_; have := ZJ5.out; omega))
 have m2_ := xm (Kd.R_kept F42.out hk2_ (fun k_ h_ h2_ => by have u1_ := B44.out k_ h_; have u2_ : g46 ≤ k_ ∧ k_ < g46 + 1 := h2_; have := ZJ5.out; omega))
 have m3_ := xm (blk_kept BKg1.out hk2_ (fun h2_ => by have u1_ := GBg1.out; have u2_ : g46 ≤ g1 ∧ g1 < g46 + 1 := h2_; have := Z2.out; have := Z3.out; have := Z4.out; have := ZJ5.out; omega))
 have m4_ := xm (blk_kept BKg3.out hk2_ (fun h2_ => by have u1_ := GBg3.out; have u2_ : g46 ≤ g3 ∧ g3 < g46 + 1 := h2_; have := Z3.out; have := Z4.out; have := ZJ5.out; omega))
 clear F30 F36 F42 BKg1 BKg3
 have F30 := m0_
 have F36 := m1_
 have F42 := m2_
 have BKg1 := m3_
 have BKg3 := m4_
 clear m0_ m1_ m2_ m3_ m4_
 clear HB BKg46
 have HB := mb_
 have BKg46 := xm hx_
 clear mb_ hx_ hk_ hk2_ hw_ ge_
 refine hK.out _ _ ⟨((xc BKg1.out 0).trans rfl), ((xc BKg1.out 1).trans rfl), ((xc BKg1.out 2).trans rfl), ((xc BKg1.out 3).trans rfl), ((xc BKg1.out 4).trans rfl), ((xc BKg3.out 0).trans rfl), ((xc BKg3.out 1).trans rfl)⟩ (fun hHeld => ?_)
 clear hK K
 refine px 10 11 2047 (by kernel_rfl) ?_
 refine done_ (by kernel_rfl) ?_
 (try clear hHeld)
 obtain ⟨hcg1_0, hfg1_0, hcg1_1, hfg1_1, hcg1_2, hfg1_2, hcg1_3, hfg1_3, hcg1_4, hfg1_4⟩ := laws_FnExactPushMap.cs5 BKg1.out
 obtain ⟨hcg3_0, hfg3_0, hcg3_1, hfg3_1⟩ := laws_FnExactPushMap.cs2 BKg3.out
 obtain ⟨hcg46_0, hfg46_0, hcg46_1, hfg46_1, hcg46_2, hfg46_2, hcg46_3, hfg46_3, hcg46_4, hfg46_4⟩ := laws_FnExactPushMap.cs5 BKg46.out
 go_wp2_with (first
  | ((with_reducible refine gate_callee (f := 35) rfl ?_); refine goesL_ (some 30) rfl rfl Try.func35 (by kernel_rfl) rfl #[.agg #[.slice A0_0 l0_0.length c0_0, .slice A0_1 l0_1.length c0_1, .slice A0_2 l0_2.length c0_2, .int .i64 a0_3, .int .i64 a0_4]] rfl mB ?_; refine (laws_toWindow.calls k _ _ l0_0 _ _ l0_1 _ _ l0_2 a0_3 a0_4 t50_0 t50_1 t50_2 t50_3 t50_4 _ (Kd.C_below HR0_0.out HB.out) HC0_0.out (Kd.C_below HR0_1.out HB.out) HC0_1.out (Kd.C_below HR0_2.out HB.out) HC0_2.out t50A.out).mono ?_; rintro e w7_ ⟨v0_, v1_, v2_, rfl, h0_, h1_, h2_, hb_⟩; refine ⟨_, rfl, ?_⟩; have Z7 := xm (hb_.size : w6_.heap.size ≤ w7_.heap.size); have hk_ := Kept.of_below hb_ (fun _ => False); obtain ⟨A52, c53, rfl⟩ := Kd.R_slice h0_; obtain ⟨A58, c59, rfl⟩ := Kd.R_slice h1_; obtain ⟨A64, c65, rfl⟩ := Kd.R_slice h2_; obtain ⟨P54, p1_, p2_, p3_⟩ := hideT (base := w.heap.size) rfl h0_ (szOf (w := w) HB.out); have F51 := xm p1_; have B55 : Aside0 (∀ k_, P54 k_ → w6_.heap.size ≤ k_ ∧ k_ < w7_.heap.size) := xm p2_; have T56 := xm p3_; clear p1_ p2_ p3_; obtain ⟨P60, p1_, p2_, p3_⟩ := hideT (base := w.heap.size) rfl h1_ (szOf (w := w) HB.out); have F57 := xm p1_; have B61 : Aside0 (∀ k_, P60 k_ → w6_.heap.size ≤ k_ ∧ k_ < w7_.heap.size) := xm p2_; have T62 := xm p3_; clear p1_ p2_ p3_; obtain ⟨P66, p1_, p2_, p3_⟩ := hideT (base := w.heap.size) rfl h2_ (szOf (w := w) HB.out); have F63 := xm p1_; have B67 : Aside0 (∀ k_, P66 k_ → w6_.heap.size ≤ k_ ∧ k_ < w7_.heap.size) := xm p2_; have T68 := xm p3_; clear p1_ p2_ p3_; have m0_ := xm (Kd.R_kept F30.out hk_ (fun _ _ h_ => h_)); have m1_ := xm (Kd.R_kept F36.out hk_ (fun _ _ h_ => h_)); have m2_ := xm (Kd.R_kept F42.out hk_ (fun _ _ h_ => h_)); have m3_ := xm (blk_kept BKg1.out hk_ (fun h_ => h_)); have m4_ := xm (blk_kept BKg3.out hk_ (fun h_ => h_)); have m5_ := xm (blk_kept BKg46.out hk_ (fun h_ => h_)); clear F30 F36 F42 BKg1 BKg3 BKg46; have F30 := m0_; have F36 := m1_; have F42 := m2_; have BKg1 := m3_; have BKg3 := m4_; have BKg46 := m5_; clear m0_ m1_ m2_ m3_ m4_ m5_; have m0_ := xm (below_step (w := w) HB.out hb_); clear HB; have HB := m0_; clear m0_ hb_ hk_ h0_ h1_ h2_; clear hcg1_0 hfg1_0 hcg1_1 hfg1_1 hcg1_2 hfg1_2 hcg1_3 hfg1_3 hcg1_4 hfg1_4; obtain ⟨hcg1_0, hfg1_0, hcg1_1, hfg1_1, hcg1_2, hfg1_2, hcg1_3, hfg1_3, hcg1_4, hfg1_4⟩ := laws_FnExactPushMap.cs5 BKg1.out; clear hcg3_0 hfg3_0 hcg3_1 hfg3_1; obtain ⟨hcg3_0, hfg3_0, hcg3_1, hfg3_1⟩ := laws_FnExactPushMap.cs2 BKg3.out; clear hcg46_0 hfg46_0 hcg46_1 hfg46_1 hcg46_2 hfg46_2 hcg46_3 hfg46_3 hcg46_4 hfg46_4; obtain ⟨hcg46_0, hfg46_0, hcg46_1, hfg46_1, hcg46_2, hfg46_2, hcg46_3, hfg46_3, hcg46_4, hfg46_4⟩ := laws_FnExactPushMap.cs5 BKg46.out)
  | ((with_reducible refine gate_dst (N := 8) rfl ?_); refine box_event ?hgq70 (N := 8) ?hdq70 (cs := #[.slice none 0 0, .slice none 0 0, .slice none 0 0, .int .i64 0, .int .i64 0]) (t := 53) ?hrq70 ?_; (case hdq70 => rfl); (case hgq70 => rfl); (case hrq70 => exact zB); intro g69 hg_ w8_ hbox_ hb_; have Z8 := xm (hb_.size : w7_.heap.size ≤ w8_.heap.size); have hk_ := Kept.of_below hb_ (fun _ => False); have m0_ := xm (Kd.R_kept F30.out hk_ (fun _ _ h_ => h_)); have m1_ := xm (Kd.R_kept F36.out hk_ (fun _ _ h_ => h_)); have m2_ := xm (Kd.R_kept F42.out hk_ (fun _ _ h_ => h_)); have m3_ := xm (Kd.R_kept F51.out hk_ (fun _ _ h_ => h_)); have m4_ := xm (Kd.R_kept F57.out hk_ (fun _ _ h_ => h_)); have m5_ := xm (Kd.R_kept F63.out hk_ (fun _ _ h_ => h_)); have m6_ := xm (blk_kept BKg1.out hk_ (fun h_ => h_)); have m7_ := xm (blk_kept BKg3.out hk_ (fun h_ => h_)); have m8_ := xm (blk_kept BKg46.out hk_ (fun h_ => h_)); clear F30 F36 F42 F51 F57 F63 BKg1 BKg3 BKg46; have F30 := m0_; have F36 := m1_; have F42 := m2_; have F51 := m3_; have F57 := m4_; have F63 := m5_; have BKg1 := m6_; have BKg3 := m7_; have BKg46 := m8_; clear m0_ m1_ m2_ m3_ m4_ m5_ m6_ m7_ m8_; have m0_ := xm (below_step (w := w) HB.out hb_); clear HB; have HB := m0_; have BKg69 := xm hbox_; have GBg69 : Aside0 (w7_.heap.size ≤ g69 ∧ g69 < w8_.heap.size) := xm ⟨by rw [hg_]; exact Nat.le_refl _, blk_lt hbox_⟩; clear m0_ hb_ hbox_ hg_ hk_; clear hcg1_0 hfg1_0 hcg1_1 hfg1_1 hcg1_2 hfg1_2 hcg1_3 hfg1_3 hcg1_4 hfg1_4; obtain ⟨hcg1_0, hfg1_0, hcg1_1, hfg1_1, hcg1_2, hfg1_2, hcg1_3, hfg1_3, hcg1_4, hfg1_4⟩ := laws_FnExactPushMap.cs5 BKg1.out; clear hcg3_0 hfg3_0 hcg3_1 hfg3_1; obtain ⟨hcg3_0, hfg3_0, hcg3_1, hfg3_1⟩ := laws_FnExactPushMap.cs2 BKg3.out; clear hcg46_0 hfg46_0 hcg46_1 hfg46_1 hcg46_2 hfg46_2 hcg46_3 hfg46_3 hcg46_4 hfg46_4; obtain ⟨hcg46_0, hfg46_0, hcg46_1, hfg46_1, hcg46_2, hfg46_2, hcg46_3, hfg46_3, hcg46_4, hfg46_4⟩ := laws_FnExactPushMap.cs5 BKg46.out; obtain ⟨hcg69_0, hfg69_0, hcg69_1, hfg69_1, hcg69_2, hfg69_2, hcg69_3, hfg69_3, hcg69_4, hfg69_4⟩ := laws_FnExactPushMap.cs5 BKg69.out)
  | ((with_reducible refine gate_store (t := 53) (p := 8) rfl ?_); refine store_event (t := 53) (p := 8) (v := ?voq71) (w1 := (((((w8_.setCell ⟨g69, 0, none⟩ (.slice A52 t50_0.length c53)).setCell ⟨g69, 1, none⟩ (.slice A58 t50_1.length c59)).setCell ⟨g69, 2, none⟩ (.slice A64 t50_2.length c65)).setCell ⟨g69, 3, none⟩ (.int .i64 t50_3)).setCell ⟨g69, 4, none⟩ (.int .i64 t50_4))) ?hgq71 ?hoq71 ?hnq71 ?hrq71 ?_; (case hoq71 => rfl); (case hgq71 => rfl); (case hnq71 => rfl); (case hrq71 => exact zB); intro w9_ hw_; have hk_ : Kept w8_ w9_ (fun k_ => k_ = g69) := (by rw [hw_]; exact kept_box (kept_box (kept_box (kept_box (kept_box (Kept.refl _ _) _ _) _ _) _ _) _ _) _ _); have hx_ : w9_.heap[g69]? = some (.cells #[.slice A52 t50_0.length c53, .slice A58 t50_1.length c59, .slice A64 t50_2.length c65, .int .i64 t50_3, .int .i64 t50_4] 53 (0, 0)) := (by rw [hw_]; refine blk_put (cs := #[.slice A52 t50_0.length c53, .slice A58 t50_1.length c59, .slice A64 t50_2.length c65, .int .i64 t50_3, .int .i64 0]) ?_ 4 _ rfl; refine blk_put (cs := #[.slice A52 t50_0.length c53, .slice A58 t50_1.length c59, .slice A64 t50_2.length c65, .int .i64 0, .int .i64 0]) ?_ 3 _ rfl; refine blk_put (cs := #[.slice A52 t50_0.length c53, .slice A58 t50_1.length c59, .slice none 0 0, .int .i64 0, .int .i64 0]) ?_ 2 _ rfl; refine blk_put (cs := #[.slice A52 t50_0.length c53, .slice none 0 0, .slice none 0 0, .int .i64 0, .int .i64 0]) ?_ 1 _ rfl; refine blk_put (cs := #[.slice none 0 0, .slice none 0 0, .slice none 0 0, .int .i64 0, .int .i64 0]) ?_ 0 _ rfl; exact BKg69.out); have Z9 := xm (hk_.1 : w8_.heap.size ≤ w9_.heap.size); have ge_ : w.heap.size ≤ g69 := (by have := GBg69.out; have := Z1.out; have := Z2.out; have := Z3.out; have := Z4.out; have := Z5.out; have := Z6.out; have := Z7.out; have := ZJ5.out; omega); have mb_ : Aside0 (Below w.heap.size w w9_) := xm (by rw [hw_]; exact xt (xt (xt (xt (xt (HB.out) ge_) ge_) ge_) ge_) ge_); have hk2_ := (Kept.mono hk_ (S' := fun k_ => w7_.heap.size ≤ k_ ∧ k_ < w8_.heap.size) (fun k_ h_ => by have h_ : k_ = g69 := h_; subst h_; exact GBg69.out)); have m0_ := xm (Kd.R_kept F30.out hk2_ (fun k_ h_ h2_ => by have u1_ := B32.out k_ h_; have u2_ : w7_.heap.size ≤ k_ ∧ k_ < w8_.heap.size := h2_; have := Z6.out; have := Z7.out; have := ZJ5.out; omega)); have m1_ := xm (Kd.R_kept F36.out hk2_ (fun k_ h_ h2_ => by have u1_ := B38.out k_ h_; have u2_ : w7_.heap.size ≤ k_ ∧ k_ < w8_.heap.size := h2_; have := Z6.out; have := Z7.out; have := ZJ5.out; omega)); have m2_ := xm (Kd.R_kept F42.out hk2_ (fun k_ h_ h2_ => by have u1_ := B44.out k_ h_; have u2_ : w7_.heap.size ≤ k_ ∧ k_ < w8_.heap.size := h2_; have := Z6.out; have := Z7.out; have := ZJ5.out; omega)); have m3_ := xm (Kd.R_kept F51.out hk2_ (fun k_ h_ h2_ => by have u1_ := B55.out k_ h_; have u2_ : w7_.heap.size ≤ k_ ∧ k_ < w8_.heap.size := h2_; have := ZJ5.out; omega)); have m4_ := xm (Kd.R_kept F57.out hk2_ (fun k_ h_ h2_ => by have u1_ := B61.out k_ h_; have u2_ : w7_.heap.size ≤ k_ ∧ k_ < w8_.heap.size := h2_; have := ZJ5.out; omega)); have m5_ := xm (Kd.R_kept F63.out hk2_ (fun k_ h_ h2_ => by have u1_ := B67.out k_ h_; have u2_ : w7_.heap.size ≤ k_ ∧ k_ < w8_.heap.size := h2_; have := ZJ5.out; omega)); have m6_ := xm (blk_kept BKg1.out hk2_ (fun h2_ => by have u1_ := GBg1.out; have u2_ : w7_.heap.size ≤ g1 ∧ g1 < w8_.heap.size := h2_; have := Z2.out; have := Z3.out; have := Z4.out; have := Z5.out; have := Z6.out; have := Z7.out; have := ZJ5.out; omega)); have m7_ := xm (blk_kept BKg3.out hk2_ (fun h2_ => by have u1_ := GBg3.out; have u2_ : w7_.heap.size ≤ g3 ∧ g3 < w8_.heap.size := h2_; have := Z3.out; have := Z4.out; have := Z5.out; have := Z6.out; have := Z7.out; have := ZJ5.out; omega)); have m8_ := xm (blk_kept BKg46.out hk2_ (fun h2_ => by have u1_ := GBg46.out; have u2_ : w7_.heap.size ≤ g46 ∧ g46 < w8_.heap.size := h2_; have := Z6.out; have := Z7.out; have := ZJ5.out; omega)); clear F30 F36 F42 F51 F57 F63 BKg1 BKg3 BKg46; have F30 := m0_; have F36 := m1_; have F42 := m2_; have F51 := m3_; have F57 := m4_; have F63 := m5_; have BKg1 := m6_; have BKg3 := m7_; have BKg46 := m8_; clear m0_ m1_ m2_ m3_ m4_ m5_ m6_ m7_ m8_; clear HB BKg69; have HB := mb_; have BKg69 := xm hx_; clear mb_ hx_ hk_ hk2_ hw_ ge_; clear hcg1_0 hfg1_0 hcg1_1 hfg1_1 hcg1_2 hfg1_2 hcg1_3 hfg1_3 hcg1_4 hfg1_4; obtain ⟨hcg1_0, hfg1_0, hcg1_1, hfg1_1, hcg1_2, hfg1_2, hcg1_3, hfg1_3, hcg1_4, hfg1_4⟩ := laws_FnExactPushMap.cs5 BKg1.out; clear hcg3_0 hfg3_0 hcg3_1 hfg3_1; obtain ⟨hcg3_0, hfg3_0, hcg3_1, hfg3_1⟩ := laws_FnExactPushMap.cs2 BKg3.out; clear hcg46_0 hfg46_0 hcg46_1 hfg46_1 hcg46_2 hfg46_2 hcg46_3 hfg46_3 hcg46_4 hfg46_4; obtain ⟨hcg46_0, hfg46_0, hcg46_1, hfg46_1, hcg46_2, hfg46_2, hcg46_3, hfg46_3, hcg46_4, hfg46_4⟩ := laws_FnExactPushMap.cs5 BKg46.out; clear hcg69_0 hfg69_0 hcg69_1 hfg69_1 hcg69_2 hfg69_2 hcg69_3 hfg69_3 hcg69_4 hfg69_4; obtain ⟨hcg69_0, hfg69_0, hcg69_1, hfg69_1, hcg69_2, hfg69_2, hcg69_3, hfg69_3, hcg69_4, hfg69_4⟩ := laws_FnExactPushMap.cs5 BKg69.out))
 have hk_ := Kept.drew (Kept.refl w9_ (fun _ => False))
 have m0_ := xm (Kd.R_kept F30.out hk_ (fun _ _ h_ => h_))
 have m1_ := xm (Kd.R_kept F36.out hk_ (fun _ _ h_ => h_))
 have m2_ := xm (Kd.R_kept F42.out hk_ (fun _ _ h_ => h_))
 have m3_ := xm (Kd.R_kept F51.out hk_ (fun _ _ h_ => h_))
 have m4_ := xm (Kd.R_kept F57.out hk_ (fun _ _ h_ => h_))
 have m5_ := xm (Kd.R_kept F63.out hk_ (fun _ _ h_ => h_))
 have m6_ := xm (blk_kept BKg1.out hk_ (fun h_ => h_))
 have m7_ := xm (blk_kept BKg3.out hk_ (fun h_ => h_))
 have m8_ := xm (blk_kept BKg46.out hk_ (fun h_ => h_))
 have m9_ := xm (blk_kept BKg69.out hk_ (fun h_ => h_))
 clear F30 F36 F42 F51 F57 F63 BKg1 BKg3 BKg46 BKg69
 have F30 := m0_
 have F36 := m1_
 have F42 := m2_
 have F51 := m3_
 have F57 := m4_
 have F63 := m5_
 have BKg1 := m6_
 have BKg3 := m7_
 have BKg46 := m8_
 have BKg69 := m9_
 clear m0_ m1_ m2_ m3_ m4_ m5_ m6_ m7_ m8_ m9_
 have m0_ := xm (xd HB.out)
 clear HB hk_
 have HB := m0_
 clear m0_
 have Z10 : Aside0 (w9_.heap.size ≤ w9_.drew.heap.size) := xm (Nat.le_refl _)
 refine start_ (n := 10) (S := fun w' => w'.cell? ⟨g69, 0, none⟩ = some (.slice A52 t50_0.length c53) ∧ w'.cell? ⟨g69, 1, none⟩ = some (.slice A58 t50_1.length c59) ∧ w'.cell? ⟨g69, 2, none⟩ = some (.slice A64 t50_2.length c65) ∧ w'.cell? ⟨g69, 3, none⟩ = some (.int .i64 t50_3) ∧ w'.cell? ⟨g69, 4, none⟩ = some (.int .i64 t50_4) ∧ w'.cell? ⟨g3, 0, none⟩ = some (.int .i64 a1_0) ∧ w'.cell? ⟨g3, 1, none⟩ = some (.int .i64 a1_1)) (ds := []) #[Z,Z,Z,Z,Z,Z,Z,Z,Z,Z] (by kernel_rfl) rfl rfl ⟨((xc BKg69.out 0).trans rfl), ((xc BKg69.out 1).trans rfl), ((xc BKg69.out 2).trans rfl), ((xc BKg69.out 3).trans rfl), ((xc BKg69.out 4).trans rfl), ((xc BKg3.out 0).trans rfl), ((xc BKg3.out 1).trans rfl)⟩ (fun hHeld => ?_)
 generalize w9_.drew = w10_ at F30 F36 F42 F51 F57 F63 BKg1 BKg3 BKg46 BKg69 Z10 HB hHeld ⊢
 refine tx 0 10 1 rfl rfl (by kernel_rfl) hHeld (by rintro w' ⟨s0, s1, s2, s3, s4, s5, s6⟩; go_simp; with_reducible rfl) ?_
 refine tx 1 10 3 rfl rfl (by kernel_rfl) hHeld (by rintro w' ⟨s0, s1, s2, s3, s4, s5, s6⟩; go_simp; with_reducible rfl) ?_
 refine join_ (σ := Value × Value × Value × Value × Value × Value) 2 #[Y,Y,Y,Y,Y,Y,Y,Y,Z,Z] (fun s_ => [(34, s_.1), (35, s_.2.1), (9, s_.2.2.1), (31, s_.2.2.2.1), (36, s_.2.2.2.2.1), (37, s_.2.2.2.2.2)]) (fun s_ w' => ∃ (g92 n93 n94 : Nat) (A74 : Option Addr) (c75 : Nat) (A80 : Option Addr) (c81 : Nat) (A86 : Option Addr) (c87 : Nat) (P77 : Nat → Prop) (P83 : Nat → Prop) (P89 : Nat → Prop), s_.2.1 = .tuple #[.agg #[.slice A74 t73_0.length c75, .slice A80 t73_1.length c81, .slice A86 t73_2.length c87, .int .i64 t73_3, .int .i64 t73_4], .bool t73_5] ∧ s_.2.2.1 = .pointer (some ⟨g92, 0, none⟩) ∧ s_.2.2.2.1 = .tuple #[.agg #[.slice A74 t73_0.length c75, .slice A80 t73_1.length c81, .slice A86 t73_2.length c87, .int .i64 t73_3, .int .i64 t73_4], .bool t73_5] ∧ s_.2.2.2.2.1 = .agg #[.slice A74 t73_0.length c75, .slice A80 t73_1.length c81, .slice A86 t73_2.length c87, .int .i64 t73_3, .int .i64 t73_4] ∧ s_.2.2.2.2.2 = .bool t73_5 ∧ w'.heap[g92]? = some (.cells #[.slice none 0 0, .slice none 0 0, .slice none 0 0, .int .i64 0, .int .i64 0] 53 (0, 0)) ∧ Below w10_.heap.size w10_ w' ∧ (w10_.heap.size ≤ g92 ∧ g92 < w'.heap.size ∧ w10_.heap.size ≤ n93 ∧ n93 ≤ n94 ∧ n94 ≤ w'.heap.size ∧ (g92 < n93 ∨ n94 ≤ g92)) ∧ Kd.R k51 51 w' w.heap.size P77 (.slice A74 t73_0.length c75) t73_0 ∧ (∀ k_, P77 k_ → n93 ≤ k_ ∧ k_ < n94) ∧ (∀ k_, P77 k_ → some k_ = (.slice A74 t73_0.length c75 : Value).ownBlock ∧ (some k_ ≠ (.slice A80 t73_1.length c81 : Value).ownBlock ∧ some k_ ≠ (.slice A86 t73_2.length c87 : Value).ownBlock)) ∧ Kd.R k51 51 w' w.heap.size P83 (.slice A80 t73_1.length c81) t73_1 ∧ (∀ k_, P83 k_ → n93 ≤ k_ ∧ k_ < n94) ∧ (∀ k_, P83 k_ → some k_ = (.slice A80 t73_1.length c81 : Value).ownBlock ∧ (some k_ ≠ (.slice A74 t73_0.length c75 : Value).ownBlock ∧ some k_ ≠ (.slice A86 t73_2.length c87 : Value).ownBlock)) ∧ Kd.R k51 51 w' w.heap.size P89 (.slice A86 t73_2.length c87) t73_2 ∧ (∀ k_, P89 k_ → n93 ≤ k_ ∧ k_ < n94) ∧ (∀ k_, P89 k_ → some k_ = (.slice A86 t73_2.length c87 : Value).ownBlock ∧ (some k_ ≠ (.slice A74 t73_0.length c75 : Value).ownBlock ∧ some k_ ≠ (.slice A80 t73_1.length c81 : Value).ownBlock))) ?_ (fun hJ => ?_)
 rotate_left
 ·have HL := xm (Below.refl w10_.heap.size w10_)
  refine two_ (i := 2) (j := 7) (Ni := some 34) (Nj := some 9) #[Y,Y,Y,Z,Z,Z,Z,Z,Z,Z] #[Y,Y,Z,Z,Z,Z,Z,Y,Z,Z] rfl rfl rfl rfl (by kernel_rfl) (by decide) (by decide) (fun K hK => ?_) (fun K hK => ?_)
  ·refine goes_ Try.func69 (by kernel_rfl) rfl #[.agg #[.int .i64 a1_0, .int .i64 a1_1]] (by rfl) rfl rfl mB ?_
   refine (laws_toMap.calls a1_0 a1_1 t72_0 t72_1 _ t72A.out).mono ?_
   rintro e wl3_ ⟨rfl, hb_⟩
   refine ⟨_, rfl, ?_⟩
   have ml_ := xm (below_step HL.out hb_)
   clear HL
   have HL := ml_
   clear ml_
   clear hb_
   refine hK.out _ _ ⟨(pw_cell_below HL.out ((xc BKg69.out 0).trans rfl)), (pw_cell_below HL.out ((xc BKg69.out 1).trans rfl)), (pw_cell_below HL.out ((xc BKg69.out 2).trans rfl)), (pw_cell_below HL.out ((xc BKg69.out 3).trans rfl)), (pw_cell_below HL.out ((xc BKg69.out 4).trans rfl)), (pw_cell_below HL.out ((xc BKg3.out 0).trans rfl)), (pw_cell_below HL.out ((xc BKg3.out 1).trans rfl))⟩ (fun hHeld => ?_)
   clear hK K
   refine norm_ (a' := ?_) ?_ ?_
   rotate_left
   ·show Act.put _ (some 34) _ = _
    simp only [Act.put, xi, xj, xk, i64_w, i32_w]
    rfl
   refine two_ (i := 3) (j := 7) (Ni := some 35) (Nj := some 9) #[Y,Y,Y,Y,Z,Z,Z,Z,Z,Z] #[Y,Y,Y,Z,Z,Z,Z,Y,Z,Z] rfl rfl rfl rfl (by kernel_rfl) (by decide) (by decide) (fun K hK => ?_) (fun K hK => ?_)
   ·refine goes_ Try.func70 (by kernel_rfl) rfl #[.agg #[.slice A52 t50_0.length c53, .slice A58 t50_1.length c59, .slice A64 t50_2.length c65, .int .i64 t50_3, .int .i64 t50_4], .agg #[.int .i64 t72_0, .int .i64 t72_1]] (by rfl) rfl rfl mB ?_
    refine (impl_PushMap.calls k _ _ t50_0 _ _ t50_1 _ _ t50_2 t50_3 t50_4 t72_0 t72_1 t73_0 t73_1 t73_2 t73_3 t73_4 t73_5 _ (Kd.C_below (Kd.R_reads' F51.out).2.2 HL.out) (Kd.R_reads' F51.out).2.1 (Kd.C_below (Kd.R_reads' F57.out).2.2 HL.out) (Kd.R_reads' F57.out).2.1 (Kd.C_below (Kd.R_reads' F63.out).2.2 HL.out) (Kd.R_reads' F63.out).2.1 t73A.out).mono ?_
    rintro e wl4_ ⟨v0_, v1_, v2_, rfl, h0_, h1_, h2_, hb_⟩
    refine ⟨_, rfl, ?_⟩
    obtain ⟨A74, c75, rfl⟩ := Kd.R_slice h0_
    obtain ⟨A80, c81, rfl⟩ := Kd.R_slice h1_
    obtain ⟨A86, c87, rfl⟩ := Kd.R_slice h2_
    obtain ⟨P77, p1_, p2_, p3_⟩ := hideT (base := w.heap.size) rfl h0_ (Nat.le_trans HB.out.size HL.out.size)
    have F76 := xm p1_
    have B78 := xm p2_
    have T79 := xm p3_
    clear p1_ p2_ p3_
    obtain ⟨P83, p1_, p2_, p3_⟩ := hideT (base := w.heap.size) rfl h1_ (Nat.le_trans HB.out.size HL.out.size)
    have F82 := xm p1_
    have B84 := xm p2_
    have T85 := xm p3_
    clear p1_ p2_ p3_
    obtain ⟨P89, p1_, p2_, p3_⟩ := hideT (base := w.heap.size) rfl h2_ (Nat.le_trans HB.out.size HL.out.size)
    have F88 := xm p1_
    have B90 := xm p2_
    have T91 := xm p3_
    clear p1_ p2_ p3_
    have HP_ := xm HL.out.size
    have GL_ := xm (Nat.le_refl 0)
    have ml_ := xm (below_step HL.out hb_)
    clear HL
    have HL := ml_
    clear ml_
    clear h0_ h1_ h2_
    obtain ⟨nlo_, hnlo_⟩ : ∃ q_, q_ = wl3_.heap.size := ⟨_, rfl⟩
    obtain ⟨nhi_, hnhi_⟩ : ∃ q_, q_ = wl4_.heap.size := ⟨_, rfl⟩
    have mB_ : Aside0 (∀ k_, P77 k_ → nlo_ ≤ k_ ∧ k_ < nhi_) := xm (by rw [hnlo_, hnhi_]; exact B78.out)
    clear B78
    have B78 := mB_
    clear mB_
    have mB_ : Aside0 (∀ k_, P83 k_ → nlo_ ≤ k_ ∧ k_ < nhi_) := xm (by rw [hnlo_, hnhi_]; exact B84.out)
    clear B84
    have B84 := mB_
    clear mB_
    have mB_ : Aside0 (∀ k_, P89 k_ → nlo_ ≤ k_ ∧ k_ < nhi_) := xm (by rw [hnlo_, hnhi_]; exact B90.out)
    clear B90
    have B90 := mB_
    clear mB_
    have ZL : Aside0 (w10_.heap.size ≤ nlo_ ∧ nlo_ ≤ nhi_ ∧ nhi_ ≤ wl4_.heap.size) := xm (by have z1_ := HP_.out; have z2_ := hb_.size; omega)
    clear hnlo_ hnhi_
    clear hb_
    refine hK.out _ _ ⟨(pw_cell_below HL.out ((xc BKg69.out 0).trans rfl)), (pw_cell_below HL.out ((xc BKg69.out 1).trans rfl)), (pw_cell_below HL.out ((xc BKg69.out 2).trans rfl)), (pw_cell_below HL.out ((xc BKg69.out 3).trans rfl)), (pw_cell_below HL.out ((xc BKg69.out 4).trans rfl)), (pw_cell_below HL.out ((xc BKg3.out 0).trans rfl)), (pw_cell_below HL.out ((xc BKg3.out 1).trans rfl))⟩ (fun hHeld => ?_)
    clear hK K
    refine norm_ (a' := ?_) ?_ ?_
    rotate_left
    ·show Act.put _ (some 35) _ = _
     simp only [Act.put, xi, xj, xk, i64_w, i32_w]
     rfl
    refine px 4 10 31 (by kernel_rfl) ?_
    refine px 5 10 63 (by kernel_rfl) ?_
    refine px 6 10 127 (by kernel_rfl) ?_
    refine one_ (i := 7) (N := some 9) #[Y,Y,Y,Y,Y,Y,Y,Y,Z,Z] rfl rfl (by kernel_rfl) (by decide) (fun K hK => ?_)
    refine value_ (v := .pointer (some ⟨wl4_.heap.size, 0, none⟩)) (w1 := wl4_.alloc (.cells #[.slice none 0 0, .slice none 0 0, .slice none 0 0, .int .i64 0, .int .i64 0] 53 (0, 0))) (by rfl) rfl zB ?_
    obtain ⟨wl8_, gq_, hgq_, hwq_, hbq_⟩ : ∃ (W_ : World) (g_ : Nat), g_ = wl4_.heap.size ∧ W_ = wl4_.alloc (.cells #[.slice none 0 0, .slice none 0 0, .slice none 0 0, .int .i64 0, .int .i64 0] 53 (0, 0)) ∧ True := ⟨_, _, rfl, rfl, trivial⟩
    rw [← hwq_, ← hgq_]
    have hb_ : Below wl4_.heap.size wl4_ wl8_ := by rw [hwq_]; exact xa (Below.refl _ _) _
    have BQ : Aside0 (wl8_.heap[gq_]? = some (.cells #[.slice none 0 0, .slice none 0 0, .slice none 0 0, .int .i64 0, .int .i64 0] 53 (0, 0))) := xm (by rw [hwq_, hgq_]; exact blk_new _ _)
    have ZQ : Aside0 (w10_.heap.size ≤ gq_ ∧ gq_ < wl8_.heap.size ∧ w10_.heap.size ≤ nlo_ ∧ nlo_ ≤ nhi_ ∧ nhi_ ≤ wl8_.heap.size ∧ (gq_ < nlo_ ∨ nhi_ ≤ gq_)) := xm (by have z1_ := ZL.out; have z2_ := hb_.size; have z3_ := blk_lt BQ.out; have z4_ := HL.out.size; omega)
    have ml_ := xm (below_step HL.out hb_)
    clear HL
    have HL := ml_
    clear ml_
    have mk_ := xm (Kd.R_below F76.out hb_)
    clear F76
    have F76 := mk_
    clear mk_
    have mk_ := xm (Kd.R_below F82.out hb_)
    clear F82
    have F82 := mk_
    clear mk_
    have mk_ := xm (Kd.R_below F88.out hb_)
    clear F88
    have F88 := mk_
    clear mk_
    clear hb_ hgq_ hwq_ hbq_
    refine hK.out _ _ ⟨(pw_cell_below HL.out ((xc BKg69.out 0).trans rfl)), (pw_cell_below HL.out ((xc BKg69.out 1).trans rfl)), (pw_cell_below HL.out ((xc BKg69.out 2).trans rfl)), (pw_cell_below HL.out ((xc BKg69.out 3).trans rfl)), (pw_cell_below HL.out ((xc BKg69.out 4).trans rfl)), (pw_cell_below HL.out ((xc BKg3.out 0).trans rfl)), (pw_cell_below HL.out ((xc BKg3.out 1).trans rfl))⟩ (fun hHeld => ?_)
    clear hK K
    refine norm_ (a' := ?_) ?_ ?_
    rotate_left
    ·show Act.put _ (some 9) _ = _
     simp only [Act.put, xi, xj, xk, i64_w, i32_w]
     rfl
    exact norm_ pB (hJ (.agg #[.int .i64 t72_0, .int .i64 t72_1], .tuple #[.agg #[.slice A74 t73_0.length c75, .slice A80 t73_1.length c81, .slice A86 t73_2.length c87, .int .i64 t73_3, .int .i64 t73_4], .bool t73_5], .pointer (some ⟨gq_, 0, none⟩), .tuple #[.agg #[.slice A74 t73_0.length c75, .slice A80 t73_1.length c81, .slice A86 t73_2.length c87, .int .i64 t73_3, .int .i64 t73_4], .bool t73_5], .agg #[.slice A74 t73_0.length c75, .slice A80 t73_1.length c81, .slice A86 t73_2.length c87, .int .i64 t73_3, .int .i64 t73_4], .bool t73_5) _ ⟨gq_, nlo_, nhi_, A74, c75, A80, c81, A86, c87, P77, P83, P89, rfl, rfl, rfl, rfl, rfl, BQ.out, HL.out, ZQ.out, F76.out, B78.out, T79.out, F82.out, B84.out, T85.out, F88.out, B90.out, T91.out⟩)
   ·refine value_ (v := .pointer (some ⟨wl3_.heap.size, 0, none⟩)) (w1 := wl3_.alloc (.cells #[.slice none 0 0, .slice none 0 0, .slice none 0 0, .int .i64 0, .int .i64 0] 53 (0, 0))) (by rfl) rfl zB ?_
    obtain ⟨wl4_, gq_, hgq_, hwq_, hbq_⟩ : ∃ (W_ : World) (g_ : Nat), g_ = wl3_.heap.size ∧ W_ = wl3_.alloc (.cells #[.slice none 0 0, .slice none 0 0, .slice none 0 0, .int .i64 0, .int .i64 0] 53 (0, 0)) ∧ True := ⟨_, _, rfl, rfl, trivial⟩
    rw [← hwq_, ← hgq_]
    have hb_ : Below wl3_.heap.size wl3_ wl4_ := by rw [hwq_]; exact xa (Below.refl _ _) _
    have BQ : Aside0 (wl4_.heap[gq_]? = some (.cells #[.slice none 0 0, .slice none 0 0, .slice none 0 0, .int .i64 0, .int .i64 0] 53 (0, 0))) := xm (by rw [hwq_, hgq_]; exact blk_new _ _)
    have GQ := xm (show w10_.heap.size ≤ gq_ ∧ gq_ < wl4_.heap.size from ⟨by rw [hgq_]; exact HL.out.size, blk_lt BQ.out⟩)
    have ml_ := xm (below_step HL.out hb_)
    clear HL
    have HL := ml_
    clear ml_
    clear hb_ hgq_ hwq_ hbq_
    refine hK.out _ _ ⟨(pw_cell_below HL.out ((xc BKg69.out 0).trans rfl)), (pw_cell_below HL.out ((xc BKg69.out 1).trans rfl)), (pw_cell_below HL.out ((xc BKg69.out 2).trans rfl)), (pw_cell_below HL.out ((xc BKg69.out 3).trans rfl)), (pw_cell_below HL.out ((xc BKg69.out 4).trans rfl)), (pw_cell_below HL.out ((xc BKg3.out 0).trans rfl)), (pw_cell_below HL.out ((xc BKg3.out 1).trans rfl))⟩ (fun hHeld => ?_)
    clear hK K
    refine norm_ (a' := ?_) ?_ ?_
    rotate_left
    ·show Act.put _ (some 9) _ = _
     simp only [Act.put, xi, xj, xk, i64_w, i32_w]
     rfl
    refine one_ (i := 3) (N := some 35) #[Y,Y,Y,Y,Z,Z,Z,Y,Z,Z] rfl rfl (by kernel_rfl) (by decide) (fun K hK => ?_)
    refine goes_ Try.func70 (by kernel_rfl) rfl #[.agg #[.slice A52 t50_0.length c53, .slice A58 t50_1.length c59, .slice A64 t50_2.length c65, .int .i64 t50_3, .int .i64 t50_4], .agg #[.int .i64 t72_0, .int .i64 t72_1]] (by rfl) rfl rfl mB ?_
    refine (impl_PushMap.calls k _ _ t50_0 _ _ t50_1 _ _ t50_2 t50_3 t50_4 t72_0 t72_1 t73_0 t73_1 t73_2 t73_3 t73_4 t73_5 _ (Kd.C_below (Kd.R_reads' F51.out).2.2 HL.out) (Kd.R_reads' F51.out).2.1 (Kd.C_below (Kd.R_reads' F57.out).2.2 HL.out) (Kd.R_reads' F57.out).2.1 (Kd.C_below (Kd.R_reads' F63.out).2.2 HL.out) (Kd.R_reads' F63.out).2.1 t73A.out).mono ?_
    rintro e wl5_ ⟨v0_, v1_, v2_, rfl, h0_, h1_, h2_, hb_⟩
    refine ⟨_, rfl, ?_⟩
    obtain ⟨A74, c75, rfl⟩ := Kd.R_slice h0_
    obtain ⟨A80, c81, rfl⟩ := Kd.R_slice h1_
    obtain ⟨A86, c87, rfl⟩ := Kd.R_slice h2_
    obtain ⟨P77, p1_, p2_, p3_⟩ := hideT (base := w.heap.size) rfl h0_ (Nat.le_trans HB.out.size HL.out.size)
    have F76 := xm p1_
    have B78 := xm p2_
    have T79 := xm p3_
    clear p1_ p2_ p3_
    obtain ⟨P83, p1_, p2_, p3_⟩ := hideT (base := w.heap.size) rfl h1_ (Nat.le_trans HB.out.size HL.out.size)
    have F82 := xm p1_
    have B84 := xm p2_
    have T85 := xm p3_
    clear p1_ p2_ p3_
    obtain ⟨P89, p1_, p2_, p3_⟩ := hideT (base := w.heap.size) rfl h2_ (Nat.le_trans HB.out.size HL.out.size)
    have F88 := xm p1_
    have B90 := xm p2_
    have T91 := xm p3_
    clear p1_ p2_ p3_
    have HP_ := xm HL.out.size
    have GL_ := xm (Nat.le_refl 0)
    have ml_ := xm (below_step HL.out hb_)
    clear HL
    have HL := ml_
    clear ml_
    clear h0_ h1_ h2_
    have GL_ := xm (blk_lt BQ.out)
    have mq_ := xm (blk_below BQ.out hb_)
    clear BQ
    have BQ := mq_
    clear mq_
    obtain ⟨nlo_, hnlo_⟩ : ∃ q_, q_ = wl4_.heap.size := ⟨_, rfl⟩
    obtain ⟨nhi_, hnhi_⟩ : ∃ q_, q_ = wl5_.heap.size := ⟨_, rfl⟩
    have mB_ : Aside0 (∀ k_, P77 k_ → nlo_ ≤ k_ ∧ k_ < nhi_) := xm (by rw [hnlo_, hnhi_]; exact B78.out)
    clear B78
    have B78 := mB_
    clear mB_
    have mB_ : Aside0 (∀ k_, P83 k_ → nlo_ ≤ k_ ∧ k_ < nhi_) := xm (by rw [hnlo_, hnhi_]; exact B84.out)
    clear B84
    have B84 := mB_
    clear mB_
    have mB_ : Aside0 (∀ k_, P89 k_ → nlo_ ≤ k_ ∧ k_ < nhi_) := xm (by rw [hnlo_, hnhi_]; exact B90.out)
    clear B90
    have B90 := mB_
    clear mB_
    have ZQ : Aside0 (w10_.heap.size ≤ gq_ ∧ gq_ < wl5_.heap.size ∧ w10_.heap.size ≤ nlo_ ∧ nlo_ ≤ nhi_ ∧ nhi_ ≤ wl5_.heap.size ∧ (gq_ < nlo_ ∨ nhi_ ≤ gq_)) := xm (by have z1_ := GL_.out; have z2_ := hb_.size; have z3_ := GQ.out; have z4_ := blk_lt BQ.out; have z5_ := HP_.out; omega)
    clear hnlo_ hnhi_
    clear hb_
    refine hK.out _ _ ⟨(pw_cell_below HL.out ((xc BKg69.out 0).trans rfl)), (pw_cell_below HL.out ((xc BKg69.out 1).trans rfl)), (pw_cell_below HL.out ((xc BKg69.out 2).trans rfl)), (pw_cell_below HL.out ((xc BKg69.out 3).trans rfl)), (pw_cell_below HL.out ((xc BKg69.out 4).trans rfl)), (pw_cell_below HL.out ((xc BKg3.out 0).trans rfl)), (pw_cell_below HL.out ((xc BKg3.out 1).trans rfl))⟩ (fun hHeld => ?_)
    clear hK K
    refine norm_ (a' := ?_) ?_ ?_
    rotate_left
    ·show Act.put _ (some 35) _ = _
     simp only [Act.put, xi, xj, xk, i64_w, i32_w]
     rfl
    refine px 4 10 159 (by kernel_rfl) ?_
    refine px 5 10 191 (by kernel_rfl) ?_
    refine px 6 10 255 (by kernel_rfl) ?_
    exact norm_ pB (hJ (.agg #[.int .i64 t72_0, .int .i64 t72_1], .tuple #[.agg #[.slice A74 t73_0.length c75, .slice A80 t73_1.length c81, .slice A86 t73_2.length c87, .int .i64 t73_3, .int .i64 t73_4], .bool t73_5], .pointer (some ⟨gq_, 0, none⟩), .tuple #[.agg #[.slice A74 t73_0.length c75, .slice A80 t73_1.length c81, .slice A86 t73_2.length c87, .int .i64 t73_3, .int .i64 t73_4], .bool t73_5], .agg #[.slice A74 t73_0.length c75, .slice A80 t73_1.length c81, .slice A86 t73_2.length c87, .int .i64 t73_3, .int .i64 t73_4], .bool t73_5) _ ⟨gq_, nlo_, nhi_, A74, c75, A80, c81, A86, c87, P77, P83, P89, rfl, rfl, rfl, rfl, rfl, BQ.out, HL.out, ZQ.out, F76.out, B78.out, T79.out, F82.out, B84.out, T85.out, F88.out, B90.out, T91.out⟩)
  ·refine value_ (v := .pointer (some ⟨w10_.heap.size, 0, none⟩)) (w1 := w10_.alloc (.cells #[.slice none 0 0, .slice none 0 0, .slice none 0 0, .int .i64 0, .int .i64 0] 53 (0, 0))) (by rfl) rfl zB ?_
   obtain ⟨wl3_, gq_, hgq_, hwq_, hbq_⟩ : ∃ (W_ : World) (g_ : Nat), g_ = w10_.heap.size ∧ W_ = w10_.alloc (.cells #[.slice none 0 0, .slice none 0 0, .slice none 0 0, .int .i64 0, .int .i64 0] 53 (0, 0)) ∧ True := ⟨_, _, rfl, rfl, trivial⟩
   rw [← hwq_, ← hgq_]
   have hb_ : Below w10_.heap.size w10_ wl3_ := by rw [hwq_]; exact xa (Below.refl _ _) _
   have BQ : Aside0 (wl3_.heap[gq_]? = some (.cells #[.slice none 0 0, .slice none 0 0, .slice none 0 0, .int .i64 0, .int .i64 0] 53 (0, 0))) := xm (by rw [hwq_, hgq_]; exact blk_new _ _)
   have GQ := xm (show w10_.heap.size ≤ gq_ ∧ gq_ < wl3_.heap.size from ⟨by rw [hgq_]; exact HL.out.size, blk_lt BQ.out⟩)
   have ml_ := xm (below_step HL.out hb_)
   clear HL
   have HL := ml_
   clear ml_
   clear hb_ hgq_ hwq_ hbq_
   refine hK.out _ _ ⟨(pw_cell_below HL.out ((xc BKg69.out 0).trans rfl)), (pw_cell_below HL.out ((xc BKg69.out 1).trans rfl)), (pw_cell_below HL.out ((xc BKg69.out 2).trans rfl)), (pw_cell_below HL.out ((xc BKg69.out 3).trans rfl)), (pw_cell_below HL.out ((xc BKg69.out 4).trans rfl)), (pw_cell_below HL.out ((xc BKg3.out 0).trans rfl)), (pw_cell_below HL.out ((xc BKg3.out 1).trans rfl))⟩ (fun hHeld => ?_)
   clear hK K
   refine norm_ (a' := ?_) ?_ ?_
   rotate_left
   ·show Act.put _ (some 9) _ = _
    simp only [Act.put, xi, xj, xk, i64_w, i32_w]
    rfl
   refine one_ (i := 2) (N := some 34) #[Y,Y,Y,Z,Z,Z,Z,Y,Z,Z] rfl rfl (by kernel_rfl) (by decide) (fun K hK => ?_)
   refine goes_ Try.func69 (by kernel_rfl) rfl #[.agg #[.int .i64 a1_0, .int .i64 a1_1]] (by rfl) rfl rfl mB ?_
   refine (laws_toMap.calls a1_0 a1_1 t72_0 t72_1 _ t72A.out).mono ?_
   rintro e wl4_ ⟨rfl, hb_⟩
   refine ⟨_, rfl, ?_⟩
   have ml_ := xm (below_step HL.out hb_)
   clear HL
   have HL := ml_
   clear ml_
   have GL_ := xm (blk_lt BQ.out)
   have mq_ := xm (blk_below BQ.out hb_)
   clear BQ
   have BQ := mq_
   clear mq_
   clear hb_
   refine hK.out _ _ ⟨(pw_cell_below HL.out ((xc BKg69.out 0).trans rfl)), (pw_cell_below HL.out ((xc BKg69.out 1).trans rfl)), (pw_cell_below HL.out ((xc BKg69.out 2).trans rfl)), (pw_cell_below HL.out ((xc BKg69.out 3).trans rfl)), (pw_cell_below HL.out ((xc BKg69.out 4).trans rfl)), (pw_cell_below HL.out ((xc BKg3.out 0).trans rfl)), (pw_cell_below HL.out ((xc BKg3.out 1).trans rfl))⟩ (fun hHeld => ?_)
   clear hK K
   refine norm_ (a' := ?_) ?_ ?_
   rotate_left
   ·show Act.put _ (some 34) _ = _
    simp only [Act.put, xi, xj, xk, i64_w, i32_w]
    rfl
   refine one_ (i := 3) (N := some 35) #[Y,Y,Y,Y,Z,Z,Z,Y,Z,Z] rfl rfl (by kernel_rfl) (by decide) (fun K hK => ?_)
   refine goes_ Try.func70 (by kernel_rfl) rfl #[.agg #[.slice A52 t50_0.length c53, .slice A58 t50_1.length c59, .slice A64 t50_2.length c65, .int .i64 t50_3, .int .i64 t50_4], .agg #[.int .i64 t72_0, .int .i64 t72_1]] (by rfl) rfl rfl mB ?_
   refine (impl_PushMap.calls k _ _ t50_0 _ _ t50_1 _ _ t50_2 t50_3 t50_4 t72_0 t72_1 t73_0 t73_1 t73_2 t73_3 t73_4 t73_5 _ (Kd.C_below (Kd.R_reads' F51.out).2.2 HL.out) (Kd.R_reads' F51.out).2.1 (Kd.C_below (Kd.R_reads' F57.out).2.2 HL.out) (Kd.R_reads' F57.out).2.1 (Kd.C_below (Kd.R_reads' F63.out).2.2 HL.out) (Kd.R_reads' F63.out).2.1 t73A.out).mono ?_
   rintro e wl5_ ⟨v0_, v1_, v2_, rfl, h0_, h1_, h2_, hb_⟩
   refine ⟨_, rfl, ?_⟩
   obtain ⟨A74, c75, rfl⟩ := Kd.R_slice h0_
   obtain ⟨A80, c81, rfl⟩ := Kd.R_slice h1_
   obtain ⟨A86, c87, rfl⟩ := Kd.R_slice h2_
   obtain ⟨P77, p1_, p2_, p3_⟩ := hideT (base := w.heap.size) rfl h0_ (Nat.le_trans HB.out.size HL.out.size)
   have F76 := xm p1_
   have B78 := xm p2_
   have T79 := xm p3_
   clear p1_ p2_ p3_
   obtain ⟨P83, p1_, p2_, p3_⟩ := hideT (base := w.heap.size) rfl h1_ (Nat.le_trans HB.out.size HL.out.size)
   have F82 := xm p1_
   have B84 := xm p2_
   have T85 := xm p3_
   clear p1_ p2_ p3_
   obtain ⟨P89, p1_, p2_, p3_⟩ := hideT (base := w.heap.size) rfl h2_ (Nat.le_trans HB.out.size HL.out.size)
   have F88 := xm p1_
   have B90 := xm p2_
   have T91 := xm p3_
   clear p1_ p2_ p3_
   have HP_ := xm HL.out.size
   have GL_ := xm (Nat.le_refl 0)
   have ml_ := xm (below_step HL.out hb_)
   clear HL
   have HL := ml_
   clear ml_
   clear h0_ h1_ h2_
   have GL_ := xm (blk_lt BQ.out)
   have mq_ := xm (blk_below BQ.out hb_)
   clear BQ
   have BQ := mq_
   clear mq_
   obtain ⟨nlo_, hnlo_⟩ : ∃ q_, q_ = wl4_.heap.size := ⟨_, rfl⟩
   obtain ⟨nhi_, hnhi_⟩ : ∃ q_, q_ = wl5_.heap.size := ⟨_, rfl⟩
   have mB_ : Aside0 (∀ k_, P77 k_ → nlo_ ≤ k_ ∧ k_ < nhi_) := xm (by rw [hnlo_, hnhi_]; exact B78.out)
   clear B78
   have B78 := mB_
   clear mB_
   have mB_ : Aside0 (∀ k_, P83 k_ → nlo_ ≤ k_ ∧ k_ < nhi_) := xm (by rw [hnlo_, hnhi_]; exact B84.out)
   clear B84
   have B84 := mB_
   clear mB_
   have mB_ : Aside0 (∀ k_, P89 k_ → nlo_ ≤ k_ ∧ k_ < nhi_) := xm (by rw [hnlo_, hnhi_]; exact B90.out)
   clear B90
   have B90 := mB_
   clear mB_
   have ZQ : Aside0 (w10_.heap.size ≤ gq_ ∧ gq_ < wl5_.heap.size ∧ w10_.heap.size ≤ nlo_ ∧ nlo_ ≤ nhi_ ∧ nhi_ ≤ wl5_.heap.size ∧ (gq_ < nlo_ ∨ nhi_ ≤ gq_)) := xm (by have z1_ := GL_.out; have z2_ := hb_.size; have z3_ := GQ.out; have z4_ := blk_lt BQ.out; have z5_ := HP_.out; omega)
   clear hnlo_ hnhi_
   clear hb_
   refine hK.out _ _ ⟨(pw_cell_below HL.out ((xc BKg69.out 0).trans rfl)), (pw_cell_below HL.out ((xc BKg69.out 1).trans rfl)), (pw_cell_below HL.out ((xc BKg69.out 2).trans rfl)), (pw_cell_below HL.out ((xc BKg69.out 3).trans rfl)), (pw_cell_below HL.out ((xc BKg69.out 4).trans rfl)), (pw_cell_below HL.out ((xc BKg3.out 0).trans rfl)), (pw_cell_below HL.out ((xc BKg3.out 1).trans rfl))⟩ (fun hHeld => ?_)
   clear hK K
   refine norm_ (a' := ?_) ?_ ?_
   rotate_left
   ·show Act.put _ (some 35) _ = _
    simp only [Act.put, xi, xj, xk, i64_w, i32_w]
    rfl
   refine px 4 10 159 (by kernel_rfl) ?_
   refine px 5 10 191 (by kernel_rfl) ?_
   refine px 6 10 255 (by kernel_rfl) ?_
   exact norm_ pB (hJ (.agg #[.int .i64 t72_0, .int .i64 t72_1], .tuple #[.agg #[.slice A74 t73_0.length c75, .slice A80 t73_1.length c81, .slice A86 t73_2.length c87, .int .i64 t73_3, .int .i64 t73_4], .bool t73_5], .pointer (some ⟨gq_, 0, none⟩), .tuple #[.agg #[.slice A74 t73_0.length c75, .slice A80 t73_1.length c81, .slice A86 t73_2.length c87, .int .i64 t73_3, .int .i64 t73_4], .bool t73_5], .agg #[.slice A74 t73_0.length c75, .slice A80 t73_1.length c81, .slice A86 t73_2.length c87, .int .i64 t73_3, .int .i64 t73_4], .bool t73_5) _ ⟨gq_, nlo_, nhi_, A74, c75, A80, c81, A86, c87, P77, P83, P89, rfl, rfl, rfl, rfl, rfl, BQ.out, HL.out, ZQ.out, F76.out, B78.out, T79.out, F82.out, B84.out, T85.out, F88.out, B90.out, T91.out⟩)
 intro s_ w11_ hF_
 obtain ⟨v0_, v1_, v2_, v3_, v4_, v5_⟩ := s_
 (try dsimp only at hF_)
 obtain ⟨g92, n93, n94, A74, c75, A80, c81, A86, c87, P77, P83, P89, e1_, e2_, e3_, e4_, e5_, hbk_, hb_, hz_, hr0_, hp0_, ht0_, hr1_, hp1_, ht1_, hr2_, hp2_, ht2_⟩ := hF_
 subst e1_ e2_ e3_ e4_ e5_
 have ZJ11 := xm hz_
 have Z11 := xm (hb_.size : w10_.heap.size ≤ w11_.heap.size)
 have hk_ := Kept.of_below hb_ (fun _ => False)
 have m0_ := xm (Kd.R_kept F30.out hk_ (fun _ _ h_ => h_))
 have m1_ := xm (Kd.R_kept F36.out hk_ (fun _ _ h_ => h_))
 have m2_ := xm (Kd.R_kept F42.out hk_ (fun _ _ h_ => h_))
 have m3_ := xm (Kd.R_kept F51.out hk_ (fun _ _ h_ => h_))
 have m4_ := xm (Kd.R_kept F57.out hk_ (fun _ _ h_ => h_))
 have m5_ := xm (Kd.R_kept F63.out hk_ (fun _ _ h_ => h_))
 have m6_ := xm (blk_kept BKg1.out hk_ (fun h_ => h_))
 have m7_ := xm (blk_kept BKg3.out hk_ (fun h_ => h_))
 have m8_ := xm (blk_kept BKg46.out hk_ (fun h_ => h_))
 have m9_ := xm (blk_kept BKg69.out hk_ (fun h_ => h_))
 clear F30 F36 F42 F51 F57 F63 BKg1 BKg3 BKg46 BKg69
 have F30 := m0_
 have F36 := m1_
 have F42 := m2_
 have F51 := m3_
 have F57 := m4_
 have F63 := m5_
 have BKg1 := m6_
 have BKg3 := m7_
 have BKg46 := m8_
 have BKg69 := m9_
 clear m0_ m1_ m2_ m3_ m4_ m5_ m6_ m7_ m8_ m9_
 have m0_ := xm (below_step (w := w) HB.out hb_)
 clear HB
 have HB := m0_
 clear m0_
 have BKg92 := xm hbk_
 have GBg92 : Aside0 (w10_.heap.size ≤ g92 ∧ g92 < w11_.heap.size) := xm ⟨hz_.1, hz_.2.1⟩
 have F76 := xm hr0_
 have B78 := xm hp0_
 have T79 := xm ht0_
 have F82 := xm hr1_
 have B84 := xm hp1_
 have T85 := xm ht1_
 have F88 := xm hr2_
 have B90 := xm hp2_
 have T91 := xm ht2_
 clear hbk_ hb_ hz_ hk_ hr0_ hp0_ ht0_ hr1_ hp1_ ht1_ hr2_ hp2_ ht2_
 refine norm_ (a' := ?_) ?_ ?_
 rotate_left
 ·simp only [putAll, Act.put, xi, xj, xk]
  rfl
 obtain ⟨hcg92_0, hfg92_0, hcg92_1, hfg92_1, hcg92_2, hfg92_2, hcg92_3, hfg92_3, hcg92_4, hfg92_4⟩ := laws_FnExactPushMap.cs5 BKg92.out
 refine one_ (i := 8) (N := none) #[Y,Y,Y,Y,Y,Y,Y,Y,Y,Z] rfl rfl (by kernel_rfl) (by decide) (fun K hK => ?_)
 refine skip_ (by rfl) rfl (w1 := (((((w11_.setCell ⟨g92, 0, none⟩ (.slice A74 t73_0.length c75)).setCell ⟨g92, 1, none⟩ (.slice A80 t73_1.length c81)).setCell ⟨g92, 2, none⟩ (.slice A86 t73_2.length c87)).setCell ⟨g92, 3, none⟩ (.int .i64 t73_3)).setCell ⟨g92, 4, none⟩ (.int .i64 t73_4))) zB ?_
 obtain ⟨w12_, hw_⟩ : ∃ W_ : World, W_ = (((((w11_.setCell ⟨g92, 0, none⟩ (.slice A74 t73_0.length c75)).setCell ⟨g92, 1, none⟩ (.slice A80 t73_1.length c81)).setCell ⟨g92, 2, none⟩ (.slice A86 t73_2.length c87)).setCell ⟨g92, 3, none⟩ (.int .i64 t73_3)).setCell ⟨g92, 4, none⟩ (.int .i64 t73_4)) := ⟨_, rfl⟩
 rw [← hw_]
 clear hcg92_0 hfg92_0 hcg92_1 hfg92_1 hcg92_2 hfg92_2 hcg92_3 hfg92_3 hcg92_4 hfg92_4
 have hk_ : Kept w11_ w12_ (fun k_ => k_ = g92) := (by rw [hw_]; exact kept_box (kept_box (kept_box (kept_box (kept_box (Kept.refl _ _) _ _) _ _) _ _) _ _) _ _)
 have hx_ : w12_.heap[g92]? = some (.cells #[.slice A74 t73_0.length c75, .slice A80 t73_1.length c81, .slice A86 t73_2.length c87, .int .i64 t73_3, .int .i64 t73_4] 53 (0, 0)) := (by rw [hw_]; refine blk_put (cs := #[.slice A74 t73_0.length c75, .slice A80 t73_1.length c81, .slice A86 t73_2.length c87, .int .i64 t73_3, .int .i64 0]) ?_ 4 _ rfl; refine blk_put (cs := #[.slice A74 t73_0.length c75, .slice A80 t73_1.length c81, .slice A86 t73_2.length c87, .int .i64 0, .int .i64 0]) ?_ 3 _ rfl; refine blk_put (cs := #[.slice A74 t73_0.length c75, .slice A80 t73_1.length c81, .slice none 0 0, .int .i64 0, .int .i64 0]) ?_ 2 _ rfl; refine blk_put (cs := #[.slice A74 t73_0.length c75, .slice none 0 0, .slice none 0 0, .int .i64 0, .int .i64 0]) ?_ 1 _ rfl; refine blk_put (cs := #[.slice none 0 0, .slice none 0 0, .slice none 0 0, .int .i64 0, .int .i64 0]) ?_ 0 _ rfl; exact BKg92.out)
 have Z12 := xm (hk_.1 : w11_.heap.size ≤ w12_.heap.size)
 have ge_ : w.heap.size ≤ g92 := (by have := GBg92.out; have := Z1.out; have := Z2.out; have := Z3.out; have := Z4.out; have := Z5.out; have := Z6.out; have := Z7.out; have := Z8.out; have := Z9.out; have := Z10.out; have := ZJ5.out; have := ZJ11.out; omega)
 have mb_ : Aside0 (Below w.heap.size w w12_) := xm (by rw [hw_]; exact xt (xt (xt (xt (xt (HB.out) ge_) ge_) ge_) ge_) ge_)
 have hk2_ := (Kept.mono hk_ (S' := fun k_ => g92 ≤ k_ ∧ k_ < g92 + 1) (fun k_ h_ => by have h_ : k_ = g92 := h_; exact ⟨by omega, by omega⟩))
 have m0_ := xm (Kd.R_kept F30.out hk2_ (fun k_ h_ h2_ => by have u1_ := B32.out k_ h_; have u2_ : g92 ≤ k_ ∧ k_ < g92 + 1 := h2_; have := Z6.out; have := Z7.out; have := Z8.out; have := Z9.out; have := Z10.out; have := ZJ5.out; have := ZJ11.out; omega))
 have m1_ := xm (Kd.R_kept F36.out hk2_ (fun k_ h_ h2_ => by have u1_ := B38.out k_ h_; have u2_ : g92 ≤ k_ ∧ k_ < g92 + 1 := h2_; have := Z6.out; have := Z7.out; have := Z8.out; have := Z9.out; have := Z10.out; have := ZJ5.out; have := ZJ11.out; omega))
 have m2_ := xm (Kd.R_kept F42.out hk2_ (fun k_ h_ h2_ => by have u1_ := B44.out k_ h_; have u2_ : g92 ≤ k_ ∧ k_ < g92 + 1 := h2_; have := Z6.out; have := Z7.out; have := Z8.out; have := Z9.out; have := Z10.out; have := ZJ5.out; have := ZJ11.out; omega))
 have m3_ := xm (Kd.R_kept F51.out hk2_ (fun k_ h_ h2_ => by have u1_ := B55.out k_ h_; have u2_ : g92 ≤ k_ ∧ k_ < g92 + 1 := h2_; have := Z8.out; have := Z9.out; have := Z10.out; have := ZJ5.out; have := ZJ11.out; omega))
 have m4_ := xm (Kd.R_kept F57.out hk2_ (fun k_ h_ h2_ => by have u1_ := B61.out k_ h_; have u2_ : g92 ≤ k_ ∧ k_ < g92 + 1 := h2_; have := Z8.out; have := Z9.out; have := Z10.out; have := ZJ5.out; have := ZJ11.out; omega))
 have m5_ := xm (Kd.R_kept F63.out hk2_ (fun k_ h_ h2_ => by have u1_ := B67.out k_ h_; have u2_ : g92 ≤ k_ ∧ k_ < g92 + 1 := h2_; have := Z8.out; have := Z9.out; have := Z10.out; have := ZJ5.out; have := ZJ11.out; omega))
 have m6_ := xm (Kd.R_kept F76.out hk2_ (fun k_ h_ h2_ => by have u1_ := B78.out k_ h_; have u2_ : g92 ≤ k_ ∧ k_ < g92 + 1 := h2_; have := ZJ5.out; have := ZJ11.out; omega))
 have m7_ := xm (Kd.R_kept F82.out hk2_ (fun k_ h_ h2_ => by have u1_ := B84.out k_ h_; have u2_ : g92 ≤ k_ ∧ k_ < g92 + 1 := h2_; have := ZJ5.out; have := ZJ11.out; omega))
 have m8_ := xm (Kd.R_kept F88.out hk2_ (fun k_ h_ h2_ => by have u1_ := B90.out k_ h_; have u2_ : g92 ≤ k_ ∧ k_ < g92 + 1 := h2_; have := ZJ5.out; have := ZJ11.out; omega))
 have m9_ := xm (blk_kept BKg1.out hk2_ (fun h2_ => by have u1_ := GBg1.out; have u2_ : g92 ≤ g1 ∧ g1 < g92 + 1 := h2_; have := Z2.out; have := Z3.out; have := Z4.out; have := Z5.out; have := Z6.out; have := Z7.out; have := Z8.out; have := Z9.out; have := Z10.out; have := ZJ5.out; have := ZJ11.out; omega))
 have m10_ := xm (blk_kept BKg3.out hk2_ (fun h2_ => by have u1_ := GBg3.out; have u2_ : g92 ≤ g3 ∧ g3 < g92 + 1 := h2_; have := Z3.out; have := Z4.out; have := Z5.out; have := Z6.out; have := Z7.out; have := Z8.out; have := Z9.out; have := Z10.out; have := ZJ5.out; have := ZJ11.out; omega))
 have m11_ := xm (blk_kept BKg46.out hk2_ (fun h2_ => by have u1_ := GBg46.out; have u2_ : g92 ≤ g46 ∧ g46 < g92 + 1 := h2_; have := Z6.out; have := Z7.out; have := Z8.out; have := Z9.out; have := Z10.out; have := ZJ5.out; have := ZJ11.out; omega))
 have m12_ := xm (blk_kept BKg69.out hk2_ (fun h2_ => by have u1_ := GBg69.out; have u2_ : g92 ≤ g69 ∧ g69 < g92 + 1 := h2_; have := Z9.out; have := Z10.out; have := ZJ5.out; have := ZJ11.out; omega))
 clear F30 F36 F42 F51 F57 F63 F76 F82 F88 BKg1 BKg3 BKg46 BKg69
 have F30 := m0_
 have F36 := m1_
 have F42 := m2_
 have F51 := m3_
 have F57 := m4_
 have F63 := m5_
 have F76 := m6_
 have F82 := m7_
 have F88 := m8_
 have BKg1 := m9_
 have BKg3 := m10_
 have BKg46 := m11_
 have BKg69 := m12_
 clear m0_ m1_ m2_ m3_ m4_ m5_ m6_ m7_ m8_ m9_ m10_ m11_ m12_
 clear HB BKg92
 have HB := mb_
 have BKg92 := xm hx_
 clear mb_ hx_ hk_ hk2_ hw_ ge_
 refine hK.out _ _ ⟨((xc BKg69.out 0).trans rfl), ((xc BKg69.out 1).trans rfl), ((xc BKg69.out 2).trans rfl), ((xc BKg69.out 3).trans rfl), ((xc BKg69.out 4).trans rfl), ((xc BKg3.out 0).trans rfl), ((xc BKg3.out 1).trans rfl)⟩ (fun hHeld => ?_)
 clear hK K
 refine px 9 10 1023 (by kernel_rfl) ?_
 refine done_ (by kernel_rfl) ?_
 (try clear hHeld)
 obtain ⟨hcg1_0, hfg1_0, hcg1_1, hfg1_1, hcg1_2, hfg1_2, hcg1_3, hfg1_3, hcg1_4, hfg1_4⟩ := laws_FnExactPushMap.cs5 BKg1.out
 obtain ⟨hcg3_0, hfg3_0, hcg3_1, hfg3_1⟩ := laws_FnExactPushMap.cs2 BKg3.out
 obtain ⟨hcg46_0, hfg46_0, hcg46_1, hfg46_1, hcg46_2, hfg46_2, hcg46_3, hfg46_3, hcg46_4, hfg46_4⟩ := laws_FnExactPushMap.cs5 BKg46.out
 obtain ⟨hcg69_0, hfg69_0, hcg69_1, hfg69_1, hcg69_2, hfg69_2, hcg69_3, hfg69_3, hcg69_4, hfg69_4⟩ := laws_FnExactPushMap.cs5 BKg69.out
 obtain ⟨hcg92_0, hfg92_0, hcg92_1, hfg92_1, hcg92_2, hfg92_2, hcg92_3, hfg92_3, hcg92_4, hfg92_4⟩ := laws_FnExactPushMap.cs5 BKg92.out
 go_wp2_with (first
  | ((with_reducible refine gate_callee (f := 37) rfl ?_); refine goesL_ (some 40) rfl rfl Try.func37 (by kernel_rfl) rfl #[.agg #[.slice A74 t73_0.length c75, .slice A80 t73_1.length c81, .slice A86 t73_2.length c87, .int .i64 t73_3, .int .i64 t73_4], .agg #[.slice A28 t27_0.length c29, .slice A34 t27_1.length c35, .slice A40 t27_2.length c41, .int .i64 t27_3, .int .i64 t27_4]] rfl mB ?_; refine (laws_eqWindow.calls k _ _ t73_0 _ _ t73_1 _ _ t73_2 t73_3 t73_4 _ _ t27_0 _ _ t27_1 _ _ t27_2 t27_3 t27_4 true _ (Kd.R_reads' F76.out).2.2 (Kd.R_reads' F76.out).2.1 (Kd.R_reads' F82.out).2.2 (Kd.R_reads' F82.out).2.1 (Kd.R_reads' F88.out).2.2 (Kd.R_reads' F88.out).2.1 (Kd.R_reads' F30.out).2.2 (Kd.R_reads' F30.out).2.1 (Kd.R_reads' F36.out).2.2 (Kd.R_reads' F36.out).2.1 (Kd.R_reads' F42.out).2.2 (Kd.R_reads' F42.out).2.1 t96A.out).mono ?_; rintro e w13_ ⟨rfl, hb_⟩; refine ⟨_, rfl, ?_⟩; have Z13 := xm (hb_.size : w12_.heap.size ≤ w13_.heap.size); have hk_ := Kept.of_below hb_ (fun _ => False); have m0_ := xm (Kd.R_kept F30.out hk_ (fun _ _ h_ => h_)); have m1_ := xm (Kd.R_kept F36.out hk_ (fun _ _ h_ => h_)); have m2_ := xm (Kd.R_kept F42.out hk_ (fun _ _ h_ => h_)); have m3_ := xm (Kd.R_kept F51.out hk_ (fun _ _ h_ => h_)); have m4_ := xm (Kd.R_kept F57.out hk_ (fun _ _ h_ => h_)); have m5_ := xm (Kd.R_kept F63.out hk_ (fun _ _ h_ => h_)); have m6_ := xm (Kd.R_kept F76.out hk_ (fun _ _ h_ => h_)); have m7_ := xm (Kd.R_kept F82.out hk_ (fun _ _ h_ => h_)); have m8_ := xm (Kd.R_kept F88.out hk_ (fun _ _ h_ => h_)); have m9_ := xm (blk_kept BKg1.out hk_ (fun h_ => h_)); have m10_ := xm (blk_kept BKg3.out hk_ (fun h_ => h_)); have m11_ := xm (blk_kept BKg46.out hk_ (fun h_ => h_)); have m12_ := xm (blk_kept BKg69.out hk_ (fun h_ => h_)); have m13_ := xm (blk_kept BKg92.out hk_ (fun h_ => h_)); clear F30 F36 F42 F51 F57 F63 F76 F82 F88 BKg1 BKg3 BKg46 BKg69 BKg92; have F30 := m0_; have F36 := m1_; have F42 := m2_; have F51 := m3_; have F57 := m4_; have F63 := m5_; have F76 := m6_; have F82 := m7_; have F88 := m8_; have BKg1 := m9_; have BKg3 := m10_; have BKg46 := m11_; have BKg69 := m12_; have BKg92 := m13_; clear m0_ m1_ m2_ m3_ m4_ m5_ m6_ m7_ m8_ m9_ m10_ m11_ m12_ m13_; have m0_ := xm (below_step (w := w) HB.out hb_); clear HB; have HB := m0_; clear m0_ hb_ hk_; clear hcg1_0 hfg1_0 hcg1_1 hfg1_1 hcg1_2 hfg1_2 hcg1_3 hfg1_3 hcg1_4 hfg1_4; obtain ⟨hcg1_0, hfg1_0, hcg1_1, hfg1_1, hcg1_2, hfg1_2, hcg1_3, hfg1_3, hcg1_4, hfg1_4⟩ := laws_FnExactPushMap.cs5 BKg1.out; clear hcg3_0 hfg3_0 hcg3_1 hfg3_1; obtain ⟨hcg3_0, hfg3_0, hcg3_1, hfg3_1⟩ := laws_FnExactPushMap.cs2 BKg3.out; clear hcg46_0 hfg46_0 hcg46_1 hfg46_1 hcg46_2 hfg46_2 hcg46_3 hfg46_3 hcg46_4 hfg46_4; obtain ⟨hcg46_0, hfg46_0, hcg46_1, hfg46_1, hcg46_2, hfg46_2, hcg46_3, hfg46_3, hcg46_4, hfg46_4⟩ := laws_FnExactPushMap.cs5 BKg46.out; clear hcg69_0 hfg69_0 hcg69_1 hfg69_1 hcg69_2 hfg69_2 hcg69_3 hfg69_3 hcg69_4 hfg69_4; obtain ⟨hcg69_0, hfg69_0, hcg69_1, hfg69_1, hcg69_2, hfg69_2, hcg69_3, hfg69_3, hcg69_4, hfg69_4⟩ := laws_FnExactPushMap.cs5 BKg69.out; clear hcg92_0 hfg92_0 hcg92_1 hfg92_1 hcg92_2 hfg92_2 hcg92_3 hfg92_3 hcg92_4 hfg92_4; obtain ⟨hcg92_0, hfg92_0, hcg92_1, hfg92_1, hcg92_2, hfg92_2, hcg92_3, hfg92_3, hcg92_4, hfg92_4⟩ := laws_FnExactPushMap.cs5 BKg92.out))
 have hk_ := Kept.drew (Kept.refl w13_ (fun _ => False))
 have m0_ := xm (Kd.R_kept F30.out hk_ (fun _ _ h_ => h_))
 have m1_ := xm (Kd.R_kept F36.out hk_ (fun _ _ h_ => h_))
 have m2_ := xm (Kd.R_kept F42.out hk_ (fun _ _ h_ => h_))
 have m3_ := xm (Kd.R_kept F51.out hk_ (fun _ _ h_ => h_))
 have m4_ := xm (Kd.R_kept F57.out hk_ (fun _ _ h_ => h_))
 have m5_ := xm (Kd.R_kept F63.out hk_ (fun _ _ h_ => h_))
 have m6_ := xm (Kd.R_kept F76.out hk_ (fun _ _ h_ => h_))
 have m7_ := xm (Kd.R_kept F82.out hk_ (fun _ _ h_ => h_))
 have m8_ := xm (Kd.R_kept F88.out hk_ (fun _ _ h_ => h_))
 have m9_ := xm (blk_kept BKg1.out hk_ (fun h_ => h_))
 have m10_ := xm (blk_kept BKg3.out hk_ (fun h_ => h_))
 have m11_ := xm (blk_kept BKg46.out hk_ (fun h_ => h_))
 have m12_ := xm (blk_kept BKg69.out hk_ (fun h_ => h_))
 have m13_ := xm (blk_kept BKg92.out hk_ (fun h_ => h_))
 clear F30 F36 F42 F51 F57 F63 F76 F82 F88 BKg1 BKg3 BKg46 BKg69 BKg92
 have F30 := m0_
 have F36 := m1_
 have F42 := m2_
 have F51 := m3_
 have F57 := m4_
 have F63 := m5_
 have F76 := m6_
 have F82 := m7_
 have F88 := m8_
 have BKg1 := m9_
 have BKg3 := m10_
 have BKg46 := m11_
 have BKg69 := m12_
 have BKg92 := m13_
 clear m0_ m1_ m2_ m3_ m4_ m5_ m6_ m7_ m8_ m9_ m10_ m11_ m12_ m13_
 have m0_ := xm (xd HB.out)
 clear HB hk_
 have HB := m0_
 clear m0_
 have Z14 : Aside0 (w13_.heap.size ≤ w13_.drew.heap.size) := xm (Nat.le_refl _)
 refine start_ (n := 5) (S := fun w' => w'.cell? ⟨g69, 0, none⟩ = some (.slice A52 t50_0.length c53) ∧ w'.cell? ⟨g69, 1, none⟩ = some (.slice A58 t50_1.length c59) ∧ w'.cell? ⟨g69, 2, none⟩ = some (.slice A64 t50_2.length c65) ∧ w'.cell? ⟨g69, 3, none⟩ = some (.int .i64 t50_3) ∧ w'.cell? ⟨g69, 4, none⟩ = some (.int .i64 t50_4) ∧ w'.cell? ⟨g1, 0, none⟩ = some (.slice A0_0 l0_0.length c0_0) ∧ w'.cell? ⟨g1, 1, none⟩ = some (.slice A0_1 l0_1.length c0_1) ∧ w'.cell? ⟨g1, 2, none⟩ = some (.slice A0_2 l0_2.length c0_2) ∧ w'.cell? ⟨g1, 3, none⟩ = some (.int .i64 a0_3) ∧ w'.cell? ⟨g1, 4, none⟩ = some (.int .i64 a0_4)) (ds := []) #[false, false, false, false, false] (by kernel_rfl) rfl rfl ⟨(xc BKg69.out 0).trans rfl, (xc BKg69.out 1).trans rfl, (xc BKg69.out 2).trans rfl, (xc BKg69.out 3).trans rfl, (xc BKg69.out 4).trans rfl, (xc BKg1.out 0).trans rfl, (xc BKg1.out 1).trans rfl, (xc BKg1.out 2).trans rfl, (xc BKg1.out 3).trans rfl, (xc BKg1.out 4).trans rfl⟩ (fun hHeld => ?_)
 generalize w13_.drew = w14_ at F30 F36 F42 F51 F57 F63 F76 F82 F88 BKg1 BKg3 BKg46 BKg69 BKg92 Z14 HB hHeld ⊢
 refine tx 0 5 1 rfl rfl (by kernel_rfl) hHeld (by rintro w' ⟨s0, s1, s2, s3, s4, s5, s6, s7, s8, s9⟩; go_simp; with_reducible rfl) ?_
 refine tx 1 5 3 rfl rfl (by kernel_rfl) hHeld (by rintro w' ⟨s0, s1, s2, s3, s4, s5, s6, s7, s8, s9⟩; go_simp; with_reducible rfl) ?_
 refine one_ (i := 2) (N := some 49) #[true, true, true, false, false] rfl rfl (by kernel_rfl) (by decide) (fun K hK => ?_)
 refine goes_ Try.func35 (by kernel_rfl) rfl #[.agg #[.slice A0_0 l0_0.length c0_0, .slice A0_1 l0_1.length c0_1, .slice A0_2 l0_2.length c0_2, .int .i64 a0_3, .int .i64 a0_4]] (by rfl) rfl rfl mB ?_
 refine (laws_toWindow.calls k _ _ l0_0 _ _ l0_1 _ _ l0_2 a0_3 a0_4 t99_0 t99_1 t99_2 t99_3 t99_4 _ (Kd.C_below HR0_0.out HB.out) HC0_0.out (Kd.C_below HR0_1.out HB.out) HC0_1.out (Kd.C_below HR0_2.out HB.out) HC0_2.out t99A.out).mono ?_
 rintro e w15_ ⟨v0_, v1_, v2_, rfl, h0_, h1_, h2_, hb_⟩
 refine ⟨_, rfl, ?_⟩
 have Z15 := xm (hb_.size : w14_.heap.size ≤ w15_.heap.size)
 have hk_ := Kept.of_below hb_ (fun _ => False)
 obtain ⟨A101, c102, rfl⟩ := Kd.R_slice h0_
 obtain ⟨A107, c108, rfl⟩ := Kd.R_slice h1_
 obtain ⟨A113, c114, rfl⟩ := Kd.R_slice h2_
 obtain ⟨P103, p1_, p2_, p3_⟩ := hideT (base := w.heap.size) rfl h0_ (szOf (w := w) HB.out)
 have F100 := xm p1_
 have B104 : Aside0 (∀ k_, P103 k_ → w14_.heap.size ≤ k_ ∧ k_ < w15_.heap.size) := xm p2_
 have T105 := xm p3_
 clear p1_ p2_ p3_
 obtain ⟨P109, p1_, p2_, p3_⟩ := hideT (base := w.heap.size) rfl h1_ (szOf (w := w) HB.out)
 have F106 := xm p1_
 have B110 : Aside0 (∀ k_, P109 k_ → w14_.heap.size ≤ k_ ∧ k_ < w15_.heap.size) := xm p2_
 have T111 := xm p3_
 clear p1_ p2_ p3_
 obtain ⟨P115, p1_, p2_, p3_⟩ := hideT (base := w.heap.size) rfl h2_ (szOf (w := w) HB.out)
 have F112 := xm p1_
 have B116 : Aside0 (∀ k_, P115 k_ → w14_.heap.size ≤ k_ ∧ k_ < w15_.heap.size) := xm p2_
 have T117 := xm p3_
 clear p1_ p2_ p3_
 have m0_ := xm (Kd.R_kept F30.out hk_ (fun _ _ h_ => h_))
 have m1_ := xm (Kd.R_kept F36.out hk_ (fun _ _ h_ => h_))
 have m2_ := xm (Kd.R_kept F42.out hk_ (fun _ _ h_ => h_))
 have m3_ := xm (Kd.R_kept F51.out hk_ (fun _ _ h_ => h_))
 have m4_ := xm (Kd.R_kept F57.out hk_ (fun _ _ h_ => h_))
 have m5_ := xm (Kd.R_kept F63.out hk_ (fun _ _ h_ => h_))
 have m6_ := xm (Kd.R_kept F76.out hk_ (fun _ _ h_ => h_))
 have m7_ := xm (Kd.R_kept F82.out hk_ (fun _ _ h_ => h_))
 have m8_ := xm (Kd.R_kept F88.out hk_ (fun _ _ h_ => h_))
 have m9_ := xm (blk_kept BKg1.out hk_ (fun h_ => h_))
 have m10_ := xm (blk_kept BKg3.out hk_ (fun h_ => h_))
 have m11_ := xm (blk_kept BKg46.out hk_ (fun h_ => h_))
 have m12_ := xm (blk_kept BKg69.out hk_ (fun h_ => h_))
 have m13_ := xm (blk_kept BKg92.out hk_ (fun h_ => h_))
 clear F30 F36 F42 F51 F57 F63 F76 F82 F88 BKg1 BKg3 BKg46 BKg69 BKg92
 have F30 := m0_
 have F36 := m1_
 have F42 := m2_
 have F51 := m3_
 have F57 := m4_
 have F63 := m5_
 have F76 := m6_
 have F82 := m7_
 have F88 := m8_
 have BKg1 := m9_
 have BKg3 := m10_
 have BKg46 := m11_
 have BKg69 := m12_
 have BKg92 := m13_
 clear m0_ m1_ m2_ m3_ m4_ m5_ m6_ m7_ m8_ m9_ m10_ m11_ m12_ m13_
 have m0_ := xm (below_step (w := w) HB.out hb_)
 clear HB
 have HB := m0_
 clear m0_ hb_ hk_ h0_ h1_ h2_
 refine hK.out _ _ ⟨(xc BKg69.out 0).trans rfl, (xc BKg69.out 1).trans rfl, (xc BKg69.out 2).trans rfl, (xc BKg69.out 3).trans rfl, (xc BKg69.out 4).trans rfl, (xc BKg1.out 0).trans rfl, (xc BKg1.out 1).trans rfl, (xc BKg1.out 2).trans rfl, (xc BKg1.out 3).trans rfl, (xc BKg1.out 4).trans rfl⟩ (fun hHeld => ?_)
 clear hK K
 refine norm_ (a' := ?_) ?_ ?_
 rotate_left
 ·show Act.put _ (some 49) _ = _
  simp only [Act.put, xi, xj, xk, i64_w, i32_w]
  rfl
 refine one_ (i := 3) (N := some 50) #[true, true, true, true, false] rfl rfl (by kernel_rfl) (by decide) (fun K hK => ?_)
 refine goes_ Try.func37 (by kernel_rfl) rfl #[.agg #[.slice A52 t50_0.length c53, .slice A58 t50_1.length c59, .slice A64 t50_2.length c65, .int .i64 t50_3, .int .i64 t50_4], .agg #[.slice A101 t99_0.length c102, .slice A107 t99_1.length c108, .slice A113 t99_2.length c114, .int .i64 t99_3, .int .i64 t99_4]] (by rfl) rfl rfl mB ?_
 refine (laws_eqWindow.calls k _ _ t50_0 _ _ t50_1 _ _ t50_2 t50_3 t50_4 _ _ t99_0 _ _ t99_1 _ _ t99_2 t99_3 t99_4 true _ (Kd.R_reads' F51.out).2.2 (Kd.R_reads' F51.out).2.1 (Kd.R_reads' F57.out).2.2 (Kd.R_reads' F57.out).2.1 (Kd.R_reads' F63.out).2.2 (Kd.R_reads' F63.out).2.1 (Kd.R_reads' F100.out).2.2 (Kd.R_reads' F100.out).2.1 (Kd.R_reads' F106.out).2.2 (Kd.R_reads' F106.out).2.1 (Kd.R_reads' F112.out).2.2 (Kd.R_reads' F112.out).2.1 t118A.out).mono ?_
 rintro e w16_ ⟨rfl, hb_⟩
 refine ⟨_, rfl, ?_⟩
 have Z16 := xm (hb_.size : w15_.heap.size ≤ w16_.heap.size)
 have hk_ := Kept.of_below hb_ (fun _ => False)
 have m0_ := xm (Kd.R_kept F30.out hk_ (fun _ _ h_ => h_))
 have m1_ := xm (Kd.R_kept F36.out hk_ (fun _ _ h_ => h_))
 have m2_ := xm (Kd.R_kept F42.out hk_ (fun _ _ h_ => h_))
 have m3_ := xm (Kd.R_kept F51.out hk_ (fun _ _ h_ => h_))
 have m4_ := xm (Kd.R_kept F57.out hk_ (fun _ _ h_ => h_))
 have m5_ := xm (Kd.R_kept F63.out hk_ (fun _ _ h_ => h_))
 have m6_ := xm (Kd.R_kept F76.out hk_ (fun _ _ h_ => h_))
 have m7_ := xm (Kd.R_kept F82.out hk_ (fun _ _ h_ => h_))
 have m8_ := xm (Kd.R_kept F88.out hk_ (fun _ _ h_ => h_))
 have m9_ := xm (Kd.R_kept F100.out hk_ (fun _ _ h_ => h_))
 have m10_ := xm (Kd.R_kept F106.out hk_ (fun _ _ h_ => h_))
 have m11_ := xm (Kd.R_kept F112.out hk_ (fun _ _ h_ => h_))
 have m12_ := xm (blk_kept BKg1.out hk_ (fun h_ => h_))
 have m13_ := xm (blk_kept BKg3.out hk_ (fun h_ => h_))
 have m14_ := xm (blk_kept BKg46.out hk_ (fun h_ => h_))
 have m15_ := xm (blk_kept BKg69.out hk_ (fun h_ => h_))
 have m16_ := xm (blk_kept BKg92.out hk_ (fun h_ => h_))
 clear F30 F36 F42 F51 F57 F63 F76 F82 F88 F100 F106 F112 BKg1 BKg3 BKg46 BKg69 BKg92
 have F30 := m0_
 have F36 := m1_
 have F42 := m2_
 have F51 := m3_
 have F57 := m4_
 have F63 := m5_
 have F76 := m6_
 have F82 := m7_
 have F88 := m8_
 have F100 := m9_
 have F106 := m10_
 have F112 := m11_
 have BKg1 := m12_
 have BKg3 := m13_
 have BKg46 := m14_
 have BKg69 := m15_
 have BKg92 := m16_
 clear m0_ m1_ m2_ m3_ m4_ m5_ m6_ m7_ m8_ m9_ m10_ m11_ m12_ m13_ m14_ m15_ m16_
 have m0_ := xm (below_step (w := w) HB.out hb_)
 clear HB
 have HB := m0_
 clear m0_ hb_ hk_
 refine hK.out _ _ ⟨(xc BKg69.out 0).trans rfl, (xc BKg69.out 1).trans rfl, (xc BKg69.out 2).trans rfl, (xc BKg69.out 3).trans rfl, (xc BKg69.out 4).trans rfl, (xc BKg1.out 0).trans rfl, (xc BKg1.out 1).trans rfl, (xc BKg1.out 2).trans rfl, (xc BKg1.out 3).trans rfl, (xc BKg1.out 4).trans rfl⟩ (fun hHeld => ?_)
 clear hK K
 refine norm_ (a' := ?_) ?_ ?_
 rotate_left
 ·show Act.put _ (some 50) _ = _
  simp only [Act.put, xi, xj, xk, i64_w, i32_w]
  rfl
 refine px 4 5 31 (by kernel_rfl) ?_
 refine done_ (by kernel_rfl) ?_
 clear hcg1_0 hfg1_0 hcg1_1 hfg1_1 hcg1_2 hfg1_2 hcg1_3 hfg1_3 hcg1_4 hfg1_4
 obtain ⟨hcg1_0, hfg1_0, hcg1_1, hfg1_1, hcg1_2, hfg1_2, hcg1_3, hfg1_3, hcg1_4, hfg1_4⟩ := laws_FnExactPushMap.cs5 BKg1.out
 clear hcg3_0 hfg3_0 hcg3_1 hfg3_1
 obtain ⟨hcg3_0, hfg3_0, hcg3_1, hfg3_1⟩ := laws_FnExactPushMap.cs2 BKg3.out
 clear hcg46_0 hfg46_0 hcg46_1 hfg46_1 hcg46_2 hfg46_2 hcg46_3 hfg46_3 hcg46_4 hfg46_4
 obtain ⟨hcg46_0, hfg46_0, hcg46_1, hfg46_1, hcg46_2, hfg46_2, hcg46_3, hfg46_3, hcg46_4, hfg46_4⟩ := laws_FnExactPushMap.cs5 BKg46.out
 clear hcg69_0 hfg69_0 hcg69_1 hfg69_1 hcg69_2 hfg69_2 hcg69_3 hfg69_3 hcg69_4 hfg69_4
 obtain ⟨hcg69_0, hfg69_0, hcg69_1, hfg69_1, hcg69_2, hfg69_2, hcg69_3, hfg69_3, hcg69_4, hfg69_4⟩ := laws_FnExactPushMap.cs5 BKg69.out
 clear hcg92_0 hfg92_0 hcg92_1 hfg92_1 hcg92_2 hfg92_2 hcg92_3 hfg92_3 hcg92_4 hfg92_4
 obtain ⟨hcg92_0, hfg92_0, hcg92_1, hfg92_1, hcg92_2, hfg92_2, hcg92_3, hfg92_3, hcg92_4, hfg92_4⟩ := laws_FnExactPushMap.cs5 BKg92.out
 go_wp2_with (first
  | ((with_reducible refine gate_callee (f := 54) rfl ?_); refine goesL_ (some 54) rfl rfl Try.func54 (by kernel_rfl) rfl #[.agg #[.slice A52 t50_0.length c53, .slice A58 t50_1.length c59, .slice A64 t50_2.length c65, .int .i64 t50_3, .int .i64 t50_4], .int .i64 1] rfl mB ?_; refine (laws_markWindow.calls k P54 (.slice A52 t50_0.length c53) t50_0 P60 (.slice A58 t50_1.length c59) t50_1 P66 (.slice A64 t50_2.length c65) t50_2 t50_3 t50_4 1 t120_0 t120_1 t120_2 t120_3 w _ HB.out F51.out (fun k_ h_ h2_ => absurd (T56.out k_ h_).1 (by have z_ := (T62.out k_ h2_).2; first | exact z_ | exact z_.1 | exact z_.2 | exact z_.2.1 | exact z_.2.2 | exact z_.2.2.1 | exact z_.2.2.2 | exact z_.2.2.2.1 | exact z_.2.2.2.2 | exact z_.2.2.2.2.1 | exact z_.2.2.2.2.2 | exact z_.2.2.2.2.2.1 | exact z_.2.2.2.2.2.2)) (fun k_ h_ h2_ => absurd (T56.out k_ h_).1 (by have z_ := (T68.out k_ h2_).2; first | exact z_ | exact z_.1 | exact z_.2 | exact z_.2.1 | exact z_.2.2 | exact z_.2.2.1 | exact z_.2.2.2 | exact z_.2.2.2.1 | exact z_.2.2.2.2 | exact z_.2.2.2.2.1 | exact z_.2.2.2.2.2 | exact z_.2.2.2.2.2.1 | exact z_.2.2.2.2.2.2)) F57.out (fun k_ h_ h2_ => absurd (T62.out k_ h_).1 (by have z_ := (T56.out k_ h2_).2; first | exact z_ | exact z_.1 | exact z_.2 | exact z_.2.1 | exact z_.2.2 | exact z_.2.2.1 | exact z_.2.2.2 | exact z_.2.2.2.1 | exact z_.2.2.2.2 | exact z_.2.2.2.2.1 | exact z_.2.2.2.2.2 | exact z_.2.2.2.2.2.1 | exact z_.2.2.2.2.2.2)) (fun k_ h_ h2_ => absurd (T62.out k_ h_).1 (by have z_ := (T68.out k_ h2_).2; first | exact z_ | exact z_.1 | exact z_.2 | exact z_.2.1 | exact z_.2.2 | exact z_.2.2.1 | exact z_.2.2.2 | exact z_.2.2.2.1 | exact z_.2.2.2.2 | exact z_.2.2.2.2.1 | exact z_.2.2.2.2.2 | exact z_.2.2.2.2.2.1 | exact z_.2.2.2.2.2.2)) F63.out (fun k_ h_ h2_ => absurd (T68.out k_ h_).1 (by have z_ := (T56.out k_ h2_).2; first | exact z_ | exact z_.1 | exact z_.2 | exact z_.2.1 | exact z_.2.2 | exact z_.2.2.1 | exact z_.2.2.2 | exact z_.2.2.2.1 | exact z_.2.2.2.2 | exact z_.2.2.2.2.1 | exact z_.2.2.2.2.2 | exact z_.2.2.2.2.2.1 | exact z_.2.2.2.2.2.2)) (fun k_ h_ h2_ => absurd (T68.out k_ h_).1 (by have z_ := (T62.out k_ h2_).2; first | exact z_ | exact z_.1 | exact z_.2 | exact z_.2.1 | exact z_.2.2 | exact z_.2.2.1 | exact z_.2.2.2 | exact z_.2.2.2.1 | exact z_.2.2.2.2 | exact z_.2.2.2.2.1 | exact z_.2.2.2.2.2 | exact z_.2.2.2.2.2.1 | exact z_.2.2.2.2.2.2)) t120A.out).mono ?_; rintro e w17_ ⟨rfl, h0_, h1_, h2_, hb_, hkp_⟩; refine ⟨_, rfl, ?_⟩; have Z17 := xm (hkp_.1 : w16_.heap.size ≤ w17_.heap.size); have hk2_ := Kept.mono hkp_ (S' := fun k_ => w6_.heap.size ≤ k_ ∧ k_ < w7_.heap.size) (fun k_ h_ => by rcases h_ with h_ | h_ | h_ <;> first | exact B55.out k_ h_ | exact B61.out k_ h_ | exact B67.out k_ h_); have yF51 := xm (Kd.R_reok rfl h0_ (fun k_ e_ => F51.out.1 k_ e_)); have yF57 := xm (Kd.R_reok rfl h1_ (fun k_ e_ => F57.out.1 k_ e_)); have yF63 := xm (Kd.R_reok rfl h2_ (fun k_ e_ => F63.out.1 k_ e_)); have m0_ := xm (Kd.R_kept F30.out hk2_ (fun k_ h_ h2_ => by have u1_ := B32.out k_ h_; have u2_ : w6_.heap.size ≤ k_ ∧ k_ < w7_.heap.size := h2_; have := Z6.out; have := ZJ5.out; have := ZJ11.out; omega)); have m1_ := xm (Kd.R_kept F36.out hk2_ (fun k_ h_ h2_ => by have u1_ := B38.out k_ h_; have u2_ : w6_.heap.size ≤ k_ ∧ k_ < w7_.heap.size := h2_; have := Z6.out; have := ZJ5.out; have := ZJ11.out; omega)); have m2_ := xm (Kd.R_kept F42.out hk2_ (fun k_ h_ h2_ => by have u1_ := B44.out k_ h_; have u2_ : w6_.heap.size ≤ k_ ∧ k_ < w7_.heap.size := h2_; have := Z6.out; have := ZJ5.out; have := ZJ11.out; omega)); have m3_ := xm (Kd.R_kept F76.out hk2_ (fun k_ h_ h2_ => by have u1_ := B78.out k_ h_; have u2_ : w6_.heap.size ≤ k_ ∧ k_ < w7_.heap.size := h2_; have := Z8.out; have := Z9.out; have := Z10.out; have := ZJ5.out; have := ZJ11.out; omega)); have m4_ := xm (Kd.R_kept F82.out hk2_ (fun k_ h_ h2_ => by have u1_ := B84.out k_ h_; have u2_ : w6_.heap.size ≤ k_ ∧ k_ < w7_.heap.size := h2_; have := Z8.out; have := Z9.out; have := Z10.out; have := ZJ5.out; have := ZJ11.out; omega)); have m5_ := xm (Kd.R_kept F88.out hk2_ (fun k_ h_ h2_ => by have u1_ := B90.out k_ h_; have u2_ : w6_.heap.size ≤ k_ ∧ k_ < w7_.heap.size := h2_; have := Z8.out; have := Z9.out; have := Z10.out; have := ZJ5.out; have := ZJ11.out; omega)); have m6_ := xm (Kd.R_kept F100.out hk2_ (fun k_ h_ h2_ => by have u1_ := B104.out k_ h_; have u2_ : w6_.heap.size ≤ k_ ∧ k_ < w7_.heap.size := h2_; have := Z8.out; have := Z9.out; have := Z10.out; have := Z11.out; have := Z12.out; have := Z13.out; have := Z14.out; have := ZJ5.out; have := ZJ11.out; omega)); have m7_ := xm (Kd.R_kept F106.out hk2_ (fun k_ h_ h2_ => by have u1_ := B110.out k_ h_; have u2_ : w6_.heap.size ≤ k_ ∧ k_ < w7_.heap.size := h2_; have := Z8.out; have := Z9.out; have := Z10.out; have := Z11.out; have := Z12.out; have := Z13.out; have := Z14.out; have := ZJ5.out; have := ZJ11.out; omega)); have m8_ := xm (Kd.R_kept F112.out hk2_ (fun k_ h_ h2_ => by have u1_ := B116.out k_ h_; have u2_ : w6_.heap.size ≤ k_ ∧ k_ < w7_.heap.size := h2_; have := Z8.out; have := Z9.out; have := Z10.out; have := Z11.out; have := Z12.out; have := Z13.out; have := Z14.out; have := ZJ5.out; have := ZJ11.out; omega)); have m9_ := xm (blk_kept BKg1.out hk2_ (fun h2_ => by have u1_ := GBg1.out; have u2_ : w6_.heap.size ≤ g1 ∧ g1 < w7_.heap.size := h2_; have := Z2.out; have := Z3.out; have := Z4.out; have := Z5.out; have := Z6.out; have := ZJ5.out; have := ZJ11.out; omega)); have m10_ := xm (blk_kept BKg3.out hk2_ (fun h2_ => by have u1_ := GBg3.out; have u2_ : w6_.heap.size ≤ g3 ∧ g3 < w7_.heap.size := h2_; have := Z3.out; have := Z4.out; have := Z5.out; have := Z6.out; have := ZJ5.out; have := ZJ11.out; omega)); have m11_ := xm (blk_kept BKg46.out hk2_ (fun h2_ => by have u1_ := GBg46.out; have u2_ : w6_.heap.size ≤ g46 ∧ g46 < w7_.heap.size := h2_; have := Z6.out; have := ZJ5.out; have := ZJ11.out; omega)); have m12_ := xm (blk_kept BKg69.out hk2_ (fun h2_ => by have u1_ := GBg69.out; have u2_ : w6_.heap.size ≤ g69 ∧ g69 < w7_.heap.size := h2_; have := ZJ5.out; have := ZJ11.out; omega)); have m13_ := xm (blk_kept BKg92.out hk2_ (fun h2_ => by have u1_ := GBg92.out; have u2_ : w6_.heap.size ≤ g92 ∧ g92 < w7_.heap.size := h2_; have := Z8.out; have := Z9.out; have := Z10.out; have := ZJ5.out; have := ZJ11.out; omega)); clear F30 F36 F42 F76 F82 F88 F100 F106 F112 BKg1 BKg3 BKg46 BKg69 BKg92; have F30 := m0_; have F36 := m1_; have F42 := m2_; have F76 := m3_; have F82 := m4_; have F88 := m5_; have F100 := m6_; have F106 := m7_; have F112 := m8_; have BKg1 := m9_; have BKg3 := m10_; have BKg46 := m11_; have BKg69 := m12_; have BKg92 := m13_; clear m0_ m1_ m2_ m3_ m4_ m5_ m6_ m7_ m8_ m9_ m10_ m11_ m12_ m13_; clear F51 F57 F63; have F51 := yF51; have F57 := yF57; have F63 := yF63; clear yF51 yF57 yF63; clear HB; have HB := xm hb_; clear hb_ hkp_ hk2_ h0_ h1_ h2_; (try clear LEF51); have LEF51 := xm (Kd.R_reads' F51.out).1; (try clear LEF57); have LEF57 := xm (Kd.R_reads' F57.out).1; (try clear LEF63); have LEF63 := xm (Kd.R_reads' F63.out).1; clear hcg1_0 hfg1_0 hcg1_1 hfg1_1 hcg1_2 hfg1_2 hcg1_3 hfg1_3 hcg1_4 hfg1_4; obtain ⟨hcg1_0, hfg1_0, hcg1_1, hfg1_1, hcg1_2, hfg1_2, hcg1_3, hfg1_3, hcg1_4, hfg1_4⟩ := laws_FnExactPushMap.cs5 BKg1.out; clear hcg3_0 hfg3_0 hcg3_1 hfg3_1; obtain ⟨hcg3_0, hfg3_0, hcg3_1, hfg3_1⟩ := laws_FnExactPushMap.cs2 BKg3.out; clear hcg46_0 hfg46_0 hcg46_1 hfg46_1 hcg46_2 hfg46_2 hcg46_3 hfg46_3 hcg46_4 hfg46_4; obtain ⟨hcg46_0, hfg46_0, hcg46_1, hfg46_1, hcg46_2, hfg46_2, hcg46_3, hfg46_3, hcg46_4, hfg46_4⟩ := laws_FnExactPushMap.cs5 BKg46.out; clear hcg69_0 hfg69_0 hcg69_1 hfg69_1 hcg69_2 hfg69_2 hcg69_3 hfg69_3 hcg69_4 hfg69_4; obtain ⟨hcg69_0, hfg69_0, hcg69_1, hfg69_1, hcg69_2, hfg69_2, hcg69_3, hfg69_3, hcg69_4, hfg69_4⟩ := laws_FnExactPushMap.cs5 BKg69.out; clear hcg92_0 hfg92_0 hcg92_1 hfg92_1 hcg92_2 hfg92_2 hcg92_3 hfg92_3 hcg92_4 hfg92_4; obtain ⟨hcg92_0, hfg92_0, hcg92_1, hfg92_1, hcg92_2, hfg92_2, hcg92_3, hfg92_3, hcg92_4, hfg92_4⟩ := laws_FnExactPushMap.cs5 BKg92.out)
  | ((with_reducible refine gate_callee (f := 54) rfl ?_); refine goesL_ (some 70) rfl rfl Try.func54 (by kernel_rfl) rfl #[.agg #[.slice A74 t73_0.length c75, .slice A80 t73_1.length c81, .slice A86 t73_2.length c87, .int .i64 t73_3, .int .i64 t73_4], .int .i64 1] rfl mB ?_; refine (laws_markWindow.calls k P77 (.slice A74 t73_0.length c75) t73_0 P83 (.slice A80 t73_1.length c81) t73_1 P89 (.slice A86 t73_2.length c87) t73_2 t73_3 t73_4 1 t125_0 t125_1 t125_2 t125_3 w _ HB.out F76.out (fun k_ h_ h2_ => absurd (T79.out k_ h_).1 (by have z_ := (T85.out k_ h2_).2; first | exact z_ | exact z_.1 | exact z_.2 | exact z_.2.1 | exact z_.2.2 | exact z_.2.2.1 | exact z_.2.2.2 | exact z_.2.2.2.1 | exact z_.2.2.2.2 | exact z_.2.2.2.2.1 | exact z_.2.2.2.2.2 | exact z_.2.2.2.2.2.1 | exact z_.2.2.2.2.2.2)) (fun k_ h_ h2_ => absurd (T79.out k_ h_).1 (by have z_ := (T91.out k_ h2_).2; first | exact z_ | exact z_.1 | exact z_.2 | exact z_.2.1 | exact z_.2.2 | exact z_.2.2.1 | exact z_.2.2.2 | exact z_.2.2.2.1 | exact z_.2.2.2.2 | exact z_.2.2.2.2.1 | exact z_.2.2.2.2.2 | exact z_.2.2.2.2.2.1 | exact z_.2.2.2.2.2.2)) F82.out (fun k_ h_ h2_ => absurd (T85.out k_ h_).1 (by have z_ := (T79.out k_ h2_).2; first | exact z_ | exact z_.1 | exact z_.2 | exact z_.2.1 | exact z_.2.2 | exact z_.2.2.1 | exact z_.2.2.2 | exact z_.2.2.2.1 | exact z_.2.2.2.2 | exact z_.2.2.2.2.1 | exact z_.2.2.2.2.2 | exact z_.2.2.2.2.2.1 | exact z_.2.2.2.2.2.2)) (fun k_ h_ h2_ => absurd (T85.out k_ h_).1 (by have z_ := (T91.out k_ h2_).2; first | exact z_ | exact z_.1 | exact z_.2 | exact z_.2.1 | exact z_.2.2 | exact z_.2.2.1 | exact z_.2.2.2 | exact z_.2.2.2.1 | exact z_.2.2.2.2 | exact z_.2.2.2.2.1 | exact z_.2.2.2.2.2 | exact z_.2.2.2.2.2.1 | exact z_.2.2.2.2.2.2)) F88.out (fun k_ h_ h2_ => absurd (T91.out k_ h_).1 (by have z_ := (T79.out k_ h2_).2; first | exact z_ | exact z_.1 | exact z_.2 | exact z_.2.1 | exact z_.2.2 | exact z_.2.2.1 | exact z_.2.2.2 | exact z_.2.2.2.1 | exact z_.2.2.2.2 | exact z_.2.2.2.2.1 | exact z_.2.2.2.2.2 | exact z_.2.2.2.2.2.1 | exact z_.2.2.2.2.2.2)) (fun k_ h_ h2_ => absurd (T91.out k_ h_).1 (by have z_ := (T85.out k_ h2_).2; first | exact z_ | exact z_.1 | exact z_.2 | exact z_.2.1 | exact z_.2.2 | exact z_.2.2.1 | exact z_.2.2.2 | exact z_.2.2.2.1 | exact z_.2.2.2.2 | exact z_.2.2.2.2.1 | exact z_.2.2.2.2.2 | exact z_.2.2.2.2.2.1 | exact z_.2.2.2.2.2.2)) t125A.out).mono ?_; rintro e w19_ ⟨rfl, h0_, h1_, h2_, hb_, hkp_⟩; refine ⟨_, rfl, ?_⟩; have Z19 := xm (hkp_.1 : w18_.heap.size ≤ w19_.heap.size); have hk2_ := Kept.mono hkp_ (S' := fun k_ => n93 ≤ k_ ∧ k_ < n94) (fun k_ h_ => by rcases h_ with h_ | h_ | h_ <;> first | exact B78.out k_ h_ | exact B84.out k_ h_ | exact B90.out k_ h_); have yF76 := xm (Kd.R_reok rfl h0_ (fun k_ e_ => F76.out.1 k_ e_)); have yF82 := xm (Kd.R_reok rfl h1_ (fun k_ e_ => F82.out.1 k_ e_)); have yF88 := xm (Kd.R_reok rfl h2_ (fun k_ e_ => F88.out.1 k_ e_)); have m0_ := xm (Kd.R_kept F30.out hk2_ (fun k_ h_ h2_ => by have u1_ := B32.out k_ h_; have u2_ : n93 ≤ k_ ∧ k_ < n94 := h2_; have := Z6.out; have := Z7.out; have := Z8.out; have := Z9.out; have := Z10.out; have := ZJ5.out; have := ZJ11.out; omega)); have m1_ := xm (Kd.R_kept F36.out hk2_ (fun k_ h_ h2_ => by have u1_ := B38.out k_ h_; have u2_ : n93 ≤ k_ ∧ k_ < n94 := h2_; have := Z6.out; have := Z7.out; have := Z8.out; have := Z9.out; have := Z10.out; have := ZJ5.out; have := ZJ11.out; omega)); have m2_ := xm (Kd.R_kept F42.out hk2_ (fun k_ h_ h2_ => by have u1_ := B44.out k_ h_; have u2_ : n93 ≤ k_ ∧ k_ < n94 := h2_; have := Z6.out; have := Z7.out; have := Z8.out; have := Z9.out; have := Z10.out; have := ZJ5.out; have := ZJ11.out; omega)); have m3_ := xm (Kd.R_kept F51.out hk2_ (fun k_ h_ h2_ => by have u1_ := B55.out k_ h_; have u2_ : n93 ≤ k_ ∧ k_ < n94 := h2_; have := Z8.out; have := Z9.out; have := Z10.out; have := ZJ5.out; have := ZJ11.out; omega)); have m4_ := xm (Kd.R_kept F57.out hk2_ (fun k_ h_ h2_ => by have u1_ := B61.out k_ h_; have u2_ : n93 ≤ k_ ∧ k_ < n94 := h2_; have := Z8.out; have := Z9.out; have := Z10.out; have := ZJ5.out; have := ZJ11.out; omega)); have m5_ := xm (Kd.R_kept F63.out hk2_ (fun k_ h_ h2_ => by have u1_ := B67.out k_ h_; have u2_ : n93 ≤ k_ ∧ k_ < n94 := h2_; have := Z8.out; have := Z9.out; have := Z10.out; have := ZJ5.out; have := ZJ11.out; omega)); have m6_ := xm (Kd.R_kept F100.out hk2_ (fun k_ h_ h2_ => by have u1_ := B104.out k_ h_; have u2_ : n93 ≤ k_ ∧ k_ < n94 := h2_; have := Z12.out; have := Z13.out; have := Z14.out; have := ZJ5.out; have := ZJ11.out; omega)); have m7_ := xm (Kd.R_kept F106.out hk2_ (fun k_ h_ h2_ => by have u1_ := B110.out k_ h_; have u2_ : n93 ≤ k_ ∧ k_ < n94 := h2_; have := Z12.out; have := Z13.out; have := Z14.out; have := ZJ5.out; have := ZJ11.out; omega)); have m8_ := xm (Kd.R_kept F112.out hk2_ (fun k_ h_ h2_ => by have u1_ := B116.out k_ h_; have u2_ : n93 ≤ k_ ∧ k_ < n94 := h2_; have := Z12.out; have := Z13.out; have := Z14.out; have := ZJ5.out; have := ZJ11.out; omega)); have m9_ := xm (blk_kept BKg1.out hk2_ (fun h2_ => by have u1_ := GBg1.out; have u2_ : n93 ≤ g1 ∧ g1 < n94 := h2_; have := Z2.out; have := Z3.out; have := Z4.out; have := Z5.out; have := Z6.out; have := Z7.out; have := Z8.out; have := Z9.out; have := Z10.out; have := ZJ5.out; have := ZJ11.out; omega)); have m10_ := xm (blk_kept BKg3.out hk2_ (fun h2_ => by have u1_ := GBg3.out; have u2_ : n93 ≤ g3 ∧ g3 < n94 := h2_; have := Z3.out; have := Z4.out; have := Z5.out; have := Z6.out; have := Z7.out; have := Z8.out; have := Z9.out; have := Z10.out; have := ZJ5.out; have := ZJ11.out; omega)); have m11_ := xm (blk_kept BKg46.out hk2_ (fun h2_ => by have u1_ := GBg46.out; have u2_ : n93 ≤ g46 ∧ g46 < n94 := h2_; have := Z6.out; have := Z7.out; have := Z8.out; have := Z9.out; have := Z10.out; have := ZJ5.out; have := ZJ11.out; omega)); have m12_ := xm (blk_kept BKg69.out hk2_ (fun h2_ => by have u1_ := GBg69.out; have u2_ : n93 ≤ g69 ∧ g69 < n94 := h2_; have := Z9.out; have := Z10.out; have := ZJ5.out; have := ZJ11.out; omega)); have m13_ := xm (blk_kept BKg92.out hk2_ (fun h2_ => by have u1_ := GBg92.out; have u2_ : n93 ≤ g92 ∧ g92 < n94 := h2_; have := ZJ5.out; have := ZJ11.out; omega)); clear F30 F36 F42 F51 F57 F63 F100 F106 F112 BKg1 BKg3 BKg46 BKg69 BKg92; have F30 := m0_; have F36 := m1_; have F42 := m2_; have F51 := m3_; have F57 := m4_; have F63 := m5_; have F100 := m6_; have F106 := m7_; have F112 := m8_; have BKg1 := m9_; have BKg3 := m10_; have BKg46 := m11_; have BKg69 := m12_; have BKg92 := m13_; clear m0_ m1_ m2_ m3_ m4_ m5_ m6_ m7_ m8_ m9_ m10_ m11_ m12_ m13_; clear F76 F82 F88; have F76 := yF76; have F82 := yF82; have F88 := yF88; clear yF76 yF82 yF88; clear HB; have HB := xm hb_; clear hb_ hkp_ hk2_ h0_ h1_ h2_; (try clear LEF76); have LEF76 := xm (Kd.R_reads' F76.out).1; (try clear LEF82); have LEF82 := xm (Kd.R_reads' F82.out).1; (try clear LEF88); have LEF88 := xm (Kd.R_reads' F88.out).1; clear hcg1_0 hfg1_0 hcg1_1 hfg1_1 hcg1_2 hfg1_2 hcg1_3 hfg1_3 hcg1_4 hfg1_4; obtain ⟨hcg1_0, hfg1_0, hcg1_1, hfg1_1, hcg1_2, hfg1_2, hcg1_3, hfg1_3, hcg1_4, hfg1_4⟩ := laws_FnExactPushMap.cs5 BKg1.out; clear hcg3_0 hfg3_0 hcg3_1 hfg3_1; obtain ⟨hcg3_0, hfg3_0, hcg3_1, hfg3_1⟩ := laws_FnExactPushMap.cs2 BKg3.out; clear hcg46_0 hfg46_0 hcg46_1 hfg46_1 hcg46_2 hfg46_2 hcg46_3 hfg46_3 hcg46_4 hfg46_4; obtain ⟨hcg46_0, hfg46_0, hcg46_1, hfg46_1, hcg46_2, hfg46_2, hcg46_3, hfg46_3, hcg46_4, hfg46_4⟩ := laws_FnExactPushMap.cs5 BKg46.out; clear hcg69_0 hfg69_0 hcg69_1 hfg69_1 hcg69_2 hfg69_2 hcg69_3 hfg69_3 hcg69_4 hfg69_4; obtain ⟨hcg69_0, hfg69_0, hcg69_1, hfg69_1, hcg69_2, hfg69_2, hcg69_3, hfg69_3, hcg69_4, hfg69_4⟩ := laws_FnExactPushMap.cs5 BKg69.out; clear hcg92_0 hfg92_0 hcg92_1 hfg92_1 hcg92_2 hfg92_2 hcg92_3 hfg92_3 hcg92_4 hfg92_4; obtain ⟨hcg92_0, hfg92_0, hcg92_1, hfg92_1, hcg92_2, hfg92_2, hcg92_3, hfg92_3, hcg92_4, hfg92_4⟩ := laws_FnExactPushMap.cs5 BKg92.out)
  | ((with_reducible refine gate_callee (f := 71) rfl ?_); refine goesL_ (some 73) rfl rfl Try.func71 (by kernel_rfl) rfl #[.agg #[.slice A74 t73_0.length c75, .slice A80 t73_1.length c81, .slice A86 t73_2.length c87, .int .i64 t73_3, .int .i64 t73_4], .int .i64 1] rfl mB ?_; refine calls_of_args (args' := #[.agg #[.slice A74 t125_1.length c75, .slice A80 t125_2.length c81, .slice A86 t125_3.length c87, .int .i64 t73_3, .int .i64 t73_4], .int .i64 1]) (by simp only [LEF76.out, LEF82.out, LEF88.out]) ?_; refine (laws_heldWindow.calls k _ _ t125_1 _ _ t125_2 _ _ t125_3 t73_3 t73_4 1 t126_0 _ (Kd.R_reads' F76.out).2.2 (by have z_ := Kd.R_reads' F76.out; have y_ := z_.1; have x_ := z_.2.1; omega) (Kd.R_reads' F82.out).2.2 (by have z_ := Kd.R_reads' F82.out; have y_ := z_.1; have x_ := z_.2.1; omega) (Kd.R_reads' F88.out).2.2 (by have z_ := Kd.R_reads' F88.out; have y_ := z_.1; have x_ := z_.2.1; omega) t126A.out).mono ?_; rintro e w20_ ⟨rfl, hb_⟩; refine ⟨_, rfl, ?_⟩; have Z20 := xm (hb_.size : w19_.heap.size ≤ w20_.heap.size); have hk_ := Kept.of_below hb_ (fun _ => False); have m0_ := xm (Kd.R_kept F30.out hk_ (fun _ _ h_ => h_)); have m1_ := xm (Kd.R_kept F36.out hk_ (fun _ _ h_ => h_)); have m2_ := xm (Kd.R_kept F42.out hk_ (fun _ _ h_ => h_)); have m3_ := xm (Kd.R_kept F51.out hk_ (fun _ _ h_ => h_)); have m4_ := xm (Kd.R_kept F57.out hk_ (fun _ _ h_ => h_)); have m5_ := xm (Kd.R_kept F63.out hk_ (fun _ _ h_ => h_)); have m6_ := xm (Kd.R_kept F76.out hk_ (fun _ _ h_ => h_)); have m7_ := xm (Kd.R_kept F82.out hk_ (fun _ _ h_ => h_)); have m8_ := xm (Kd.R_kept F88.out hk_ (fun _ _ h_ => h_)); have m9_ := xm (Kd.R_kept F100.out hk_ (fun _ _ h_ => h_)); have m10_ := xm (Kd.R_kept F106.out hk_ (fun _ _ h_ => h_)); have m11_ := xm (Kd.R_kept F112.out hk_ (fun _ _ h_ => h_)); have m12_ := xm (blk_kept BKg1.out hk_ (fun h_ => h_)); have m13_ := xm (blk_kept BKg3.out hk_ (fun h_ => h_)); have m14_ := xm (blk_kept BKg46.out hk_ (fun h_ => h_)); have m15_ := xm (blk_kept BKg69.out hk_ (fun h_ => h_)); have m16_ := xm (blk_kept BKg92.out hk_ (fun h_ => h_)); clear F30 F36 F42 F51 F57 F63 F76 F82 F88 F100 F106 F112 BKg1 BKg3 BKg46 BKg69 BKg92; have F30 := m0_; have F36 := m1_; have F42 := m2_; have F51 := m3_; have F57 := m4_; have F63 := m5_; have F76 := m6_; have F82 := m7_; have F88 := m8_; have F100 := m9_; have F106 := m10_; have F112 := m11_; have BKg1 := m12_; have BKg3 := m13_; have BKg46 := m14_; have BKg69 := m15_; have BKg92 := m16_; clear m0_ m1_ m2_ m3_ m4_ m5_ m6_ m7_ m8_ m9_ m10_ m11_ m12_ m13_ m14_ m15_ m16_; have m0_ := xm (below_step (w := w) HB.out hb_); clear HB; have HB := m0_; clear m0_ hb_ hk_; clear hcg1_0 hfg1_0 hcg1_1 hfg1_1 hcg1_2 hfg1_2 hcg1_3 hfg1_3 hcg1_4 hfg1_4; obtain ⟨hcg1_0, hfg1_0, hcg1_1, hfg1_1, hcg1_2, hfg1_2, hcg1_3, hfg1_3, hcg1_4, hfg1_4⟩ := laws_FnExactPushMap.cs5 BKg1.out; clear hcg3_0 hfg3_0 hcg3_1 hfg3_1; obtain ⟨hcg3_0, hfg3_0, hcg3_1, hfg3_1⟩ := laws_FnExactPushMap.cs2 BKg3.out; clear hcg46_0 hfg46_0 hcg46_1 hfg46_1 hcg46_2 hfg46_2 hcg46_3 hfg46_3 hcg46_4 hfg46_4; obtain ⟨hcg46_0, hfg46_0, hcg46_1, hfg46_1, hcg46_2, hfg46_2, hcg46_3, hfg46_3, hcg46_4, hfg46_4⟩ := laws_FnExactPushMap.cs5 BKg46.out; clear hcg69_0 hfg69_0 hcg69_1 hfg69_1 hcg69_2 hfg69_2 hcg69_3 hfg69_3 hcg69_4 hfg69_4; obtain ⟨hcg69_0, hfg69_0, hcg69_1, hfg69_1, hcg69_2, hfg69_2, hcg69_3, hfg69_3, hcg69_4, hfg69_4⟩ := laws_FnExactPushMap.cs5 BKg69.out; clear hcg92_0 hfg92_0 hcg92_1 hfg92_1 hcg92_2 hfg92_2 hcg92_3 hfg92_3 hcg92_4 hfg92_4; obtain ⟨hcg92_0, hfg92_0, hcg92_1, hfg92_1, hcg92_2, hfg92_2, hcg92_3, hfg92_3, hcg92_4, hfg92_4⟩ := laws_FnExactPushMap.cs5 BKg92.out)
  | (go_at_call 37; refine (laws_eqWindow.calls k _ _ t73_0 _ _ t73_1 _ _ t73_2 t73_3 t73_4 _ _ t27_0 _ _ t27_1 _ _ t27_2 t27_3 t27_4 true _ (Kd.R_reads' F76.out).2.2 (Kd.R_reads' F76.out).2.1 (Kd.R_reads' F82.out).2.2 (Kd.R_reads' F82.out).2.1 (Kd.R_reads' F88.out).2.2 (Kd.R_reads' F88.out).2.1 (Kd.R_reads' F30.out).2.2 (Kd.R_reads' F30.out).2.1 (Kd.R_reads' F36.out).2.2 (Kd.R_reads' F36.out).2.1 (Kd.R_reads' F42.out).2.2 (Kd.R_reads' F42.out).2.1 t122A.out).mono ?_; rintro e w18_ ⟨rfl, hb_⟩; have Z18 := xm (hb_.size : w17_.heap.size ≤ w18_.heap.size); have hk_ := Kept.of_below hb_ (fun _ => False); have m0_ := xm (Kd.R_kept F30.out hk_ (fun _ _ h_ => h_)); have m1_ := xm (Kd.R_kept F36.out hk_ (fun _ _ h_ => h_)); have m2_ := xm (Kd.R_kept F42.out hk_ (fun _ _ h_ => h_)); have m3_ := xm (Kd.R_kept F51.out hk_ (fun _ _ h_ => h_)); have m4_ := xm (Kd.R_kept F57.out hk_ (fun _ _ h_ => h_)); have m5_ := xm (Kd.R_kept F63.out hk_ (fun _ _ h_ => h_)); have m6_ := xm (Kd.R_kept F76.out hk_ (fun _ _ h_ => h_)); have m7_ := xm (Kd.R_kept F82.out hk_ (fun _ _ h_ => h_)); have m8_ := xm (Kd.R_kept F88.out hk_ (fun _ _ h_ => h_)); have m9_ := xm (Kd.R_kept F100.out hk_ (fun _ _ h_ => h_)); have m10_ := xm (Kd.R_kept F106.out hk_ (fun _ _ h_ => h_)); have m11_ := xm (Kd.R_kept F112.out hk_ (fun _ _ h_ => h_)); have m12_ := xm (blk_kept BKg1.out hk_ (fun h_ => h_)); have m13_ := xm (blk_kept BKg3.out hk_ (fun h_ => h_)); have m14_ := xm (blk_kept BKg46.out hk_ (fun h_ => h_)); have m15_ := xm (blk_kept BKg69.out hk_ (fun h_ => h_)); have m16_ := xm (blk_kept BKg92.out hk_ (fun h_ => h_)); clear F30 F36 F42 F51 F57 F63 F76 F82 F88 F100 F106 F112 BKg1 BKg3 BKg46 BKg69 BKg92; have F30 := m0_; have F36 := m1_; have F42 := m2_; have F51 := m3_; have F57 := m4_; have F63 := m5_; have F76 := m6_; have F82 := m7_; have F88 := m8_; have F100 := m9_; have F106 := m10_; have F112 := m11_; have BKg1 := m12_; have BKg3 := m13_; have BKg46 := m14_; have BKg69 := m15_; have BKg92 := m16_; clear m0_ m1_ m2_ m3_ m4_ m5_ m6_ m7_ m8_ m9_ m10_ m11_ m12_ m13_ m14_ m15_ m16_; have m0_ := xm (below_step (w := w) HB.out hb_); clear HB; have HB := m0_; clear m0_ hb_ hk_; clear hcg1_0 hfg1_0 hcg1_1 hfg1_1 hcg1_2 hfg1_2 hcg1_3 hfg1_3 hcg1_4 hfg1_4; obtain ⟨hcg1_0, hfg1_0, hcg1_1, hfg1_1, hcg1_2, hfg1_2, hcg1_3, hfg1_3, hcg1_4, hfg1_4⟩ := laws_FnExactPushMap.cs5 BKg1.out; clear hcg3_0 hfg3_0 hcg3_1 hfg3_1; obtain ⟨hcg3_0, hfg3_0, hcg3_1, hfg3_1⟩ := laws_FnExactPushMap.cs2 BKg3.out; clear hcg46_0 hfg46_0 hcg46_1 hfg46_1 hcg46_2 hfg46_2 hcg46_3 hfg46_3 hcg46_4 hfg46_4; obtain ⟨hcg46_0, hfg46_0, hcg46_1, hfg46_1, hcg46_2, hfg46_2, hcg46_3, hfg46_3, hcg46_4, hfg46_4⟩ := laws_FnExactPushMap.cs5 BKg46.out; clear hcg69_0 hfg69_0 hcg69_1 hfg69_1 hcg69_2 hfg69_2 hcg69_3 hfg69_3 hcg69_4 hfg69_4; obtain ⟨hcg69_0, hfg69_0, hcg69_1, hfg69_1, hcg69_2, hfg69_2, hcg69_3, hfg69_3, hcg69_4, hfg69_4⟩ := laws_FnExactPushMap.cs5 BKg69.out; clear hcg92_0 hfg92_0 hcg92_1 hfg92_1 hcg92_2 hfg92_2 hcg92_3 hfg92_3 hcg92_4 hfg92_4; obtain ⟨hcg92_0, hfg92_0, hcg92_1, hfg92_1, hcg92_2, hfg92_2, hcg92_3, hfg92_3, hcg92_4, hfg92_4⟩ := laws_FnExactPushMap.cs5 BKg92.out))
 have hk_ := Kept.drew (Kept.refl w20_ (fun _ => False))
 have m0_ := xm (Kd.R_kept F30.out hk_ (fun _ _ h_ => h_))
 have m1_ := xm (Kd.R_kept F36.out hk_ (fun _ _ h_ => h_))
 have m2_ := xm (Kd.R_kept F42.out hk_ (fun _ _ h_ => h_))
 have m3_ := xm (Kd.R_kept F51.out hk_ (fun _ _ h_ => h_))
 have m4_ := xm (Kd.R_kept F57.out hk_ (fun _ _ h_ => h_))
 have m5_ := xm (Kd.R_kept F63.out hk_ (fun _ _ h_ => h_))
 have m6_ := xm (Kd.R_kept F76.out hk_ (fun _ _ h_ => h_))
 have m7_ := xm (Kd.R_kept F82.out hk_ (fun _ _ h_ => h_))
 have m8_ := xm (Kd.R_kept F88.out hk_ (fun _ _ h_ => h_))
 have m9_ := xm (Kd.R_kept F100.out hk_ (fun _ _ h_ => h_))
 have m10_ := xm (Kd.R_kept F106.out hk_ (fun _ _ h_ => h_))
 have m11_ := xm (Kd.R_kept F112.out hk_ (fun _ _ h_ => h_))
 have m12_ := xm (blk_kept BKg1.out hk_ (fun h_ => h_))
 have m13_ := xm (blk_kept BKg3.out hk_ (fun h_ => h_))
 have m14_ := xm (blk_kept BKg46.out hk_ (fun h_ => h_))
 have m15_ := xm (blk_kept BKg69.out hk_ (fun h_ => h_))
 have m16_ := xm (blk_kept BKg92.out hk_ (fun h_ => h_))
 clear F30 F36 F42 F51 F57 F63 F76 F82 F88 F100 F106 F112 BKg1 BKg3 BKg46 BKg69 BKg92
 have F30 := m0_
 have F36 := m1_
 have F42 := m2_
 have F51 := m3_
 have F57 := m4_
 have F63 := m5_
 have F76 := m6_
 have F82 := m7_
 have F88 := m8_
 have F100 := m9_
 have F106 := m10_
 have F112 := m11_
 have BKg1 := m12_
 have BKg3 := m13_
 have BKg46 := m14_
 have BKg69 := m15_
 have BKg92 := m16_
 clear m0_ m1_ m2_ m3_ m4_ m5_ m6_ m7_ m8_ m9_ m10_ m11_ m12_ m13_ m14_ m15_ m16_
 have m0_ := xm (xd HB.out)
 clear HB hk_
 have HB := m0_
 clear m0_
 have Z21 : Aside0 (w20_.heap.size ≤ w20_.drew.heap.size) := xm (Nat.le_refl _)
 refine start_ (n := 11) (S := fun w' => w'.cell? ⟨g1, 0, none⟩ = some (.slice A0_0 l0_0.length c0_0) ∧ w'.cell? ⟨g1, 1, none⟩ = some (.slice A0_1 l0_1.length c0_1) ∧ w'.cell? ⟨g1, 2, none⟩ = some (.slice A0_2 l0_2.length c0_2) ∧ w'.cell? ⟨g1, 3, none⟩ = some (.int .i64 a0_3) ∧ w'.cell? ⟨g1, 4, none⟩ = some (.int .i64 a0_4) ∧ w'.cell? ⟨g3, 0, none⟩ = some (.int .i64 a1_0) ∧ w'.cell? ⟨g3, 1, none⟩ = some (.int .i64 a1_1)) (ds := []) #[Z,Z,Z,Z,Z,Z,Z,Z,Z,Z,Z] (by kernel_rfl) rfl rfl ⟨((xc BKg1.out 0).trans rfl), ((xc BKg1.out 1).trans rfl), ((xc BKg1.out 2).trans rfl), ((xc BKg1.out 3).trans rfl), ((xc BKg1.out 4).trans rfl), ((xc BKg3.out 0).trans rfl), ((xc BKg3.out 1).trans rfl)⟩ (fun hHeld => ?_)
 generalize w20_.drew = w21_ at F30 F36 F42 F51 F57 F63 F76 F82 F88 F100 F106 F112 BKg1 BKg3 BKg46 BKg69 BKg92 Z21 HB hHeld ⊢
 refine tx 0 11 1 rfl rfl (by kernel_rfl) hHeld (by rintro w' ⟨s0, s1, s2, s3, s4, s5, s6⟩; go_simp; with_reducible rfl) ?_
 refine tx 2 11 5 rfl rfl (by kernel_rfl) hHeld (by rintro w' ⟨s0, s1, s2, s3, s4, s5, s6⟩; go_simp; with_reducible rfl) ?_
 refine join_ (σ := Value × Value × Value × Value × Value × Value × Value) 2 #[Y,Y,Y,Y,Y,Y,Y,Y,Y,Z,Z] (fun s_ => [(81, s_.1), (83, s_.2.1), (84, s_.2.2.1), (14, s_.2.2.2.1), (79, s_.2.2.2.2.1), (85, s_.2.2.2.2.2.1), (86, s_.2.2.2.2.2.2)]) (fun s_ w' => ∃ (g168 n169 n170 : Nat) (A150 : Option Addr) (c151 : Nat) (A156 : Option Addr) (c157 : Nat) (A162 : Option Addr) (c163 : Nat) (P153 : Nat → Prop) (P159 : Nat → Prop) (P165 : Nat → Prop), s_.2.2.1 = .tuple #[.agg #[.slice A150 t149_0.length c151, .slice A156 t149_1.length c157, .slice A162 t149_2.length c163, .int .i64 t149_3, .int .i64 t149_4], .bool t149_5] ∧ s_.2.2.2.1 = .pointer (some ⟨g168, 0, none⟩) ∧ s_.2.2.2.2.1 = .tuple #[.agg #[.slice A150 t149_0.length c151, .slice A156 t149_1.length c157, .slice A162 t149_2.length c163, .int .i64 t149_3, .int .i64 t149_4], .bool t149_5] ∧ s_.2.2.2.2.2.1 = .agg #[.slice A150 t149_0.length c151, .slice A156 t149_1.length c157, .slice A162 t149_2.length c163, .int .i64 t149_3, .int .i64 t149_4] ∧ s_.2.2.2.2.2.2 = .bool t149_5 ∧ w'.heap[g168]? = some (.cells #[.slice none 0 0, .slice none 0 0, .slice none 0 0, .int .i64 0, .int .i64 0] 53 (0, 0)) ∧ Below w21_.heap.size w21_ w' ∧ (w21_.heap.size ≤ g168 ∧ g168 < w'.heap.size ∧ w21_.heap.size ≤ n169 ∧ n169 ≤ n170 ∧ n170 ≤ w'.heap.size ∧ (g168 < n169 ∨ n170 ≤ g168)) ∧ Kd.R k51 51 w' w.heap.size P153 (.slice A150 t149_0.length c151) t149_0 ∧ (∀ k_, P153 k_ → n169 ≤ k_ ∧ k_ < n170) ∧ (∀ k_, P153 k_ → some k_ = (.slice A150 t149_0.length c151 : Value).ownBlock ∧ (some k_ ≠ (.slice A156 t149_1.length c157 : Value).ownBlock ∧ some k_ ≠ (.slice A162 t149_2.length c163 : Value).ownBlock)) ∧ Kd.R k51 51 w' w.heap.size P159 (.slice A156 t149_1.length c157) t149_1 ∧ (∀ k_, P159 k_ → n169 ≤ k_ ∧ k_ < n170) ∧ (∀ k_, P159 k_ → some k_ = (.slice A156 t149_1.length c157 : Value).ownBlock ∧ (some k_ ≠ (.slice A150 t149_0.length c151 : Value).ownBlock ∧ some k_ ≠ (.slice A162 t149_2.length c163 : Value).ownBlock)) ∧ Kd.R k51 51 w' w.heap.size P165 (.slice A162 t149_2.length c163) t149_2 ∧ (∀ k_, P165 k_ → n169 ≤ k_ ∧ k_ < n170) ∧ (∀ k_, P165 k_ → some k_ = (.slice A162 t149_2.length c163 : Value).ownBlock ∧ (some k_ ≠ (.slice A150 t149_0.length c151 : Value).ownBlock ∧ some k_ ≠ (.slice A156 t149_1.length c157 : Value).ownBlock))) ?_ (fun hJ => ?_)
 rotate_left
 ·have HL := xm (Below.refl w21_.heap.size w21_)
  refine two_ (i := 1) (j := 8) (Ni := some 81) (Nj := some 14) #[Y,Y,Y,Z,Z,Z,Z,Z,Z,Z,Z] #[Y,Z,Y,Z,Z,Z,Z,Z,Y,Z,Z] rfl rfl rfl rfl (by kernel_rfl) (by decide) (by decide) (fun K hK => ?_) (fun K hK => ?_)
  ·refine goes_ Try.func35 (by kernel_rfl) rfl #[.agg #[.slice A0_0 l0_0.length c0_0, .slice A0_1 l0_1.length c0_1, .slice A0_2 l0_2.length c0_2, .int .i64 a0_3, .int .i64 a0_4]] (by rfl) rfl rfl mB ?_
   refine (laws_toWindow.calls k _ _ l0_0 _ _ l0_1 _ _ l0_2 a0_3 a0_4 t129_0 t129_1 t129_2 t129_3 t129_4 _ (Kd.C_below (Kd.C_below HR0_0.out HB.out) HL.out) HC0_0.out (Kd.C_below (Kd.C_below HR0_1.out HB.out) HL.out) HC0_1.out (Kd.C_below (Kd.C_below HR0_2.out HB.out) HL.out) HC0_2.out t129A.out).mono ?_
   rintro e wl3_ ⟨v0_, v1_, v2_, rfl, h0_, h1_, h2_, hb_⟩
   refine ⟨_, rfl, ?_⟩
   obtain ⟨A130, c131, rfl⟩ := Kd.R_slice h0_
   obtain ⟨A136, c137, rfl⟩ := Kd.R_slice h1_
   obtain ⟨A142, c143, rfl⟩ := Kd.R_slice h2_
   have F132 := xm h0_
   have F138 := xm h1_
   have F144 := xm h2_
   have ml_ := xm (below_step HL.out hb_)
   clear HL
   have HL := ml_
   clear ml_
   clear h0_ h1_ h2_
   clear hb_
   refine hK.out _ _ ⟨(pw_cell_below HL.out ((xc BKg1.out 0).trans rfl)), (pw_cell_below HL.out ((xc BKg1.out 1).trans rfl)), (pw_cell_below HL.out ((xc BKg1.out 2).trans rfl)), (pw_cell_below HL.out ((xc BKg1.out 3).trans rfl)), (pw_cell_below HL.out ((xc BKg1.out 4).trans rfl)), (pw_cell_below HL.out ((xc BKg3.out 0).trans rfl)), (pw_cell_below HL.out ((xc BKg3.out 1).trans rfl))⟩ (fun hHeld => ?_)
   clear hK K
   refine norm_ (a' := ?_) ?_ ?_
   rotate_left
   ·show Act.put _ (some 81) _ = _
    simp only [Act.put, xi, xj, xk, i64_w, i32_w]
    rfl
   refine two_ (i := 3) (j := 8) (Ni := some 83) (Nj := some 14) #[Y,Y,Y,Y,Z,Z,Z,Z,Z,Z,Z] #[Y,Y,Y,Z,Z,Z,Z,Z,Y,Z,Z] rfl rfl rfl rfl (by kernel_rfl) (by decide) (by decide) (fun K hK => ?_) (fun K hK => ?_)
   ·refine goes_ Try.func69 (by kernel_rfl) rfl #[.agg #[.int .i64 a1_0, .int .i64 a1_1]] (by rfl) rfl rfl mB ?_
    refine (laws_toMap.calls a1_0 a1_1 t148_0 t148_1 _ t148A.out).mono ?_
    rintro e wl4_ ⟨rfl, hb_⟩
    refine ⟨_, rfl, ?_⟩
    have ml_ := xm (below_step HL.out hb_)
    clear HL
    have HL := ml_
    clear ml_
    have mk_ := xm (Kd.R_below F132.out hb_)
    clear F132
    have F132 := mk_
    clear mk_
    have mk_ := xm (Kd.R_below F138.out hb_)
    clear F138
    have F138 := mk_
    clear mk_
    have mk_ := xm (Kd.R_below F144.out hb_)
    clear F144
    have F144 := mk_
    clear mk_
    clear hb_
    refine hK.out _ _ ⟨(pw_cell_below HL.out ((xc BKg1.out 0).trans rfl)), (pw_cell_below HL.out ((xc BKg1.out 1).trans rfl)), (pw_cell_below HL.out ((xc BKg1.out 2).trans rfl)), (pw_cell_below HL.out ((xc BKg1.out 3).trans rfl)), (pw_cell_below HL.out ((xc BKg1.out 4).trans rfl)), (pw_cell_below HL.out ((xc BKg3.out 0).trans rfl)), (pw_cell_below HL.out ((xc BKg3.out 1).trans rfl))⟩ (fun hHeld => ?_)
    clear hK K
    refine norm_ (a' := ?_) ?_ ?_
    rotate_left
    ·show Act.put _ (some 83) _ = _
     simp only [Act.put, xi, xj, xk, i64_w, i32_w]
     rfl
    refine two_ (i := 4) (j := 8) (Ni := some 84) (Nj := some 14) #[Y,Y,Y,Y,Y,Z,Z,Z,Z,Z,Z] #[Y,Y,Y,Y,Z,Z,Z,Z,Y,Z,Z] rfl rfl rfl rfl (by kernel_rfl) (by decide) (by decide) (fun K hK => ?_) (fun K hK => ?_)
    ·refine goes_ Try.func70 (by kernel_rfl) rfl #[.agg #[.slice A130 t129_0.length c131, .slice A136 t129_1.length c137, .slice A142 t129_2.length c143, .int .i64 t129_3, .int .i64 t129_4], .agg #[.int .i64 t148_0, .int .i64 t148_1]] (by rfl) rfl rfl mB ?_
     refine (impl_PushMap.calls k _ _ t129_0 _ _ t129_1 _ _ t129_2 t129_3 t129_4 t148_0 t148_1 t149_0 t149_1 t149_2 t149_3 t149_4 t149_5 _ (Kd.R_reads' F132.out).2.2 (Kd.R_reads' F132.out).2.1 (Kd.R_reads' F138.out).2.2 (Kd.R_reads' F138.out).2.1 (Kd.R_reads' F144.out).2.2 (Kd.R_reads' F144.out).2.1 t149A.out).mono ?_
     rintro e wl5_ ⟨v0_, v1_, v2_, rfl, h0_, h1_, h2_, hb_⟩
     refine ⟨_, rfl, ?_⟩
     obtain ⟨A150, c151, rfl⟩ := Kd.R_slice h0_
     obtain ⟨A156, c157, rfl⟩ := Kd.R_slice h1_
     obtain ⟨A162, c163, rfl⟩ := Kd.R_slice h2_
     obtain ⟨P153, p1_, p2_, p3_⟩ := hideT (base := w.heap.size) rfl h0_ (Nat.le_trans HB.out.size HL.out.size)
     have F152 := xm p1_
     have B154 := xm p2_
     have T155 := xm p3_
     clear p1_ p2_ p3_
     obtain ⟨P159, p1_, p2_, p3_⟩ := hideT (base := w.heap.size) rfl h1_ (Nat.le_trans HB.out.size HL.out.size)
     have F158 := xm p1_
     have B160 := xm p2_
     have T161 := xm p3_
     clear p1_ p2_ p3_
     obtain ⟨P165, p1_, p2_, p3_⟩ := hideT (base := w.heap.size) rfl h2_ (Nat.le_trans HB.out.size HL.out.size)
     have F164 := xm p1_
     have B166 := xm p2_
     have T167 := xm p3_
     clear p1_ p2_ p3_
     have HP_ := xm HL.out.size
     have GL_ := xm (Nat.le_refl 0)
     have ml_ := xm (below_step HL.out hb_)
     clear HL
     have HL := ml_
     clear ml_
     clear h0_ h1_ h2_
     have mk_ := xm (Kd.R_below F132.out hb_)
     clear F132
     have F132 := mk_
     clear mk_
     have mk_ := xm (Kd.R_below F138.out hb_)
     clear F138
     have F138 := mk_
     clear mk_
     have mk_ := xm (Kd.R_below F144.out hb_)
     clear F144
     have F144 := mk_
     clear mk_
     obtain ⟨nlo_, hnlo_⟩ : ∃ q_, q_ = wl4_.heap.size := ⟨_, rfl⟩
     obtain ⟨nhi_, hnhi_⟩ : ∃ q_, q_ = wl5_.heap.size := ⟨_, rfl⟩
     have mB_ : Aside0 (∀ k_, P153 k_ → nlo_ ≤ k_ ∧ k_ < nhi_) := xm (by rw [hnlo_, hnhi_]; exact B154.out)
     clear B154
     have B154 := mB_
     clear mB_
     have mB_ : Aside0 (∀ k_, P159 k_ → nlo_ ≤ k_ ∧ k_ < nhi_) := xm (by rw [hnlo_, hnhi_]; exact B160.out)
     clear B160
     have B160 := mB_
     clear mB_
     have mB_ : Aside0 (∀ k_, P165 k_ → nlo_ ≤ k_ ∧ k_ < nhi_) := xm (by rw [hnlo_, hnhi_]; exact B166.out)
     clear B166
     have B166 := mB_
     clear mB_
     have ZL : Aside0 (w21_.heap.size ≤ nlo_ ∧ nlo_ ≤ nhi_ ∧ nhi_ ≤ wl5_.heap.size) := xm (by have z1_ := HP_.out; have z2_ := hb_.size; omega)
     clear hnlo_ hnhi_
     clear hb_
     refine hK.out _ _ ⟨(pw_cell_below HL.out ((xc BKg1.out 0).trans rfl)), (pw_cell_below HL.out ((xc BKg1.out 1).trans rfl)), (pw_cell_below HL.out ((xc BKg1.out 2).trans rfl)), (pw_cell_below HL.out ((xc BKg1.out 3).trans rfl)), (pw_cell_below HL.out ((xc BKg1.out 4).trans rfl)), (pw_cell_below HL.out ((xc BKg3.out 0).trans rfl)), (pw_cell_below HL.out ((xc BKg3.out 1).trans rfl))⟩ (fun hHeld => ?_)
     clear hK K
     refine norm_ (a' := ?_) ?_ ?_
     rotate_left
     ·show Act.put _ (some 84) _ = _
      simp only [Act.put, xi, xj, xk, i64_w, i32_w]
      rfl
     refine px 5 11 63 (by kernel_rfl) ?_
     refine px 6 11 127 (by kernel_rfl) ?_
     refine px 7 11 255 (by kernel_rfl) ?_
     refine one_ (i := 8) (N := some 14) #[Y,Y,Y,Y,Y,Y,Y,Y,Y,Z,Z] rfl rfl (by kernel_rfl) (by decide) (fun K hK => ?_)
     refine value_ (v := .pointer (some ⟨wl5_.heap.size, 0, none⟩)) (w1 := wl5_.alloc (.cells #[.slice none 0 0, .slice none 0 0, .slice none 0 0, .int .i64 0, .int .i64 0] 53 (0, 0))) (by rfl) rfl zB ?_
     obtain ⟨wl9_, gq_, hgq_, hwq_, hbq_⟩ : ∃ (W_ : World) (g_ : Nat), g_ = wl5_.heap.size ∧ W_ = wl5_.alloc (.cells #[.slice none 0 0, .slice none 0 0, .slice none 0 0, .int .i64 0, .int .i64 0] 53 (0, 0)) ∧ True := ⟨_, _, rfl, rfl, trivial⟩
     rw [← hwq_, ← hgq_]
     have hb_ : Below wl5_.heap.size wl5_ wl9_ := by rw [hwq_]; exact xa (Below.refl _ _) _
     have BQ : Aside0 (wl9_.heap[gq_]? = some (.cells #[.slice none 0 0, .slice none 0 0, .slice none 0 0, .int .i64 0, .int .i64 0] 53 (0, 0))) := xm (by rw [hwq_, hgq_]; exact blk_new _ _)
     have ZQ : Aside0 (w21_.heap.size ≤ gq_ ∧ gq_ < wl9_.heap.size ∧ w21_.heap.size ≤ nlo_ ∧ nlo_ ≤ nhi_ ∧ nhi_ ≤ wl9_.heap.size ∧ (gq_ < nlo_ ∨ nhi_ ≤ gq_)) := xm (by have z1_ := ZL.out; have z2_ := hb_.size; have z3_ := blk_lt BQ.out; have z4_ := HL.out.size; omega)
     have ml_ := xm (below_step HL.out hb_)
     clear HL
     have HL := ml_
     clear ml_
     have mk_ := xm (Kd.R_below F132.out hb_)
     clear F132
     have F132 := mk_
     clear mk_
     have mk_ := xm (Kd.R_below F138.out hb_)
     clear F138
     have F138 := mk_
     clear mk_
     have mk_ := xm (Kd.R_below F144.out hb_)
     clear F144
     have F144 := mk_
     clear mk_
     have mk_ := xm (Kd.R_below F152.out hb_)
     clear F152
     have F152 := mk_
     clear mk_
     have mk_ := xm (Kd.R_below F158.out hb_)
     clear F158
     have F158 := mk_
     clear mk_
     have mk_ := xm (Kd.R_below F164.out hb_)
     clear F164
     have F164 := mk_
     clear mk_
     clear hb_ hgq_ hwq_ hbq_
     refine hK.out _ _ ⟨(pw_cell_below HL.out ((xc BKg1.out 0).trans rfl)), (pw_cell_below HL.out ((xc BKg1.out 1).trans rfl)), (pw_cell_below HL.out ((xc BKg1.out 2).trans rfl)), (pw_cell_below HL.out ((xc BKg1.out 3).trans rfl)), (pw_cell_below HL.out ((xc BKg1.out 4).trans rfl)), (pw_cell_below HL.out ((xc BKg3.out 0).trans rfl)), (pw_cell_below HL.out ((xc BKg3.out 1).trans rfl))⟩ (fun hHeld => ?_)
     clear hK K
     refine norm_ (a' := ?_) ?_ ?_
     rotate_left
     ·show Act.put _ (some 14) _ = _
      simp only [Act.put, xi, xj, xk, i64_w, i32_w]
      rfl
     exact norm_ pB (hJ (.agg #[.slice A130 t129_0.length c131, .slice A136 t129_1.length c137, .slice A142 t129_2.length c143, .int .i64 t129_3, .int .i64 t129_4], .agg #[.int .i64 t148_0, .int .i64 t148_1], .tuple #[.agg #[.slice A150 t149_0.length c151, .slice A156 t149_1.length c157, .slice A162 t149_2.length c163, .int .i64 t149_3, .int .i64 t149_4], .bool t149_5], .pointer (some ⟨gq_, 0, none⟩), .tuple #[.agg #[.slice A150 t149_0.length c151, .slice A156 t149_1.length c157, .slice A162 t149_2.length c163, .int .i64 t149_3, .int .i64 t149_4], .bool t149_5], .agg #[.slice A150 t149_0.length c151, .slice A156 t149_1.length c157, .slice A162 t149_2.length c163, .int .i64 t149_3, .int .i64 t149_4], .bool t149_5) _ ⟨gq_, nlo_, nhi_, A150, c151, A156, c157, A162, c163, P153, P159, P165, rfl, rfl, rfl, rfl, rfl, BQ.out, HL.out, ZQ.out, F152.out, B154.out, T155.out, F158.out, B160.out, T161.out, F164.out, B166.out, T167.out⟩)
    ·refine value_ (v := .pointer (some ⟨wl4_.heap.size, 0, none⟩)) (w1 := wl4_.alloc (.cells #[.slice none 0 0, .slice none 0 0, .slice none 0 0, .int .i64 0, .int .i64 0] 53 (0, 0))) (by rfl) rfl zB ?_
     obtain ⟨wl5_, gq_, hgq_, hwq_, hbq_⟩ : ∃ (W_ : World) (g_ : Nat), g_ = wl4_.heap.size ∧ W_ = wl4_.alloc (.cells #[.slice none 0 0, .slice none 0 0, .slice none 0 0, .int .i64 0, .int .i64 0] 53 (0, 0)) ∧ True := ⟨_, _, rfl, rfl, trivial⟩
     rw [← hwq_, ← hgq_]
     have hb_ : Below wl4_.heap.size wl4_ wl5_ := by rw [hwq_]; exact xa (Below.refl _ _) _
     have BQ : Aside0 (wl5_.heap[gq_]? = some (.cells #[.slice none 0 0, .slice none 0 0, .slice none 0 0, .int .i64 0, .int .i64 0] 53 (0, 0))) := xm (by rw [hwq_, hgq_]; exact blk_new _ _)
     have GQ := xm (show w21_.heap.size ≤ gq_ ∧ gq_ < wl5_.heap.size from ⟨by rw [hgq_]; exact HL.out.size, blk_lt BQ.out⟩)
     have ml_ := xm (below_step HL.out hb_)
     clear HL
     have HL := ml_
     clear ml_
     have mk_ := xm (Kd.R_below F132.out hb_)
     clear F132
     have F132 := mk_
     clear mk_
     have mk_ := xm (Kd.R_below F138.out hb_)
     clear F138
     have F138 := mk_
     clear mk_
     have mk_ := xm (Kd.R_below F144.out hb_)
     clear F144
     have F144 := mk_
     clear mk_
     clear hb_ hgq_ hwq_ hbq_
     refine hK.out _ _ ⟨(pw_cell_below HL.out ((xc BKg1.out 0).trans rfl)), (pw_cell_below HL.out ((xc BKg1.out 1).trans rfl)), (pw_cell_below HL.out ((xc BKg1.out 2).trans rfl)), (pw_cell_below HL.out ((xc BKg1.out 3).trans rfl)), (pw_cell_below HL.out ((xc BKg1.out 4).trans rfl)), (pw_cell_below HL.out ((xc BKg3.out 0).trans rfl)), (pw_cell_below HL.out ((xc BKg3.out 1).trans rfl))⟩ (fun hHeld => ?_)
     clear hK K
     refine norm_ (a' := ?_) ?_ ?_
     rotate_left
     ·show Act.put _ (some 14) _ = _
      simp only [Act.put, xi, xj, xk, i64_w, i32_w]
      rfl
     refine one_ (i := 4) (N := some 84) #[Y,Y,Y,Y,Y,Z,Z,Z,Y,Z,Z] rfl rfl (by kernel_rfl) (by decide) (fun K hK => ?_)
     refine goes_ Try.func70 (by kernel_rfl) rfl #[.agg #[.slice A130 t129_0.length c131, .slice A136 t129_1.length c137, .slice A142 t129_2.length c143, .int .i64 t129_3, .int .i64 t129_4], .agg #[.int .i64 t148_0, .int .i64 t148_1]] (by rfl) rfl rfl mB ?_
     refine (impl_PushMap.calls k _ _ t129_0 _ _ t129_1 _ _ t129_2 t129_3 t129_4 t148_0 t148_1 t149_0 t149_1 t149_2 t149_3 t149_4 t149_5 _ (Kd.R_reads' F132.out).2.2 (Kd.R_reads' F132.out).2.1 (Kd.R_reads' F138.out).2.2 (Kd.R_reads' F138.out).2.1 (Kd.R_reads' F144.out).2.2 (Kd.R_reads' F144.out).2.1 t149A.out).mono ?_
     rintro e wl6_ ⟨v0_, v1_, v2_, rfl, h0_, h1_, h2_, hb_⟩
     refine ⟨_, rfl, ?_⟩
     obtain ⟨A150, c151, rfl⟩ := Kd.R_slice h0_
     obtain ⟨A156, c157, rfl⟩ := Kd.R_slice h1_
     obtain ⟨A162, c163, rfl⟩ := Kd.R_slice h2_
     obtain ⟨P153, p1_, p2_, p3_⟩ := hideT (base := w.heap.size) rfl h0_ (Nat.le_trans HB.out.size HL.out.size)
     have F152 := xm p1_
     have B154 := xm p2_
     have T155 := xm p3_
     clear p1_ p2_ p3_
     obtain ⟨P159, p1_, p2_, p3_⟩ := hideT (base := w.heap.size) rfl h1_ (Nat.le_trans HB.out.size HL.out.size)
     have F158 := xm p1_
     have B160 := xm p2_
     have T161 := xm p3_
     clear p1_ p2_ p3_
     obtain ⟨P165, p1_, p2_, p3_⟩ := hideT (base := w.heap.size) rfl h2_ (Nat.le_trans HB.out.size HL.out.size)
     have F164 := xm p1_
     have B166 := xm p2_
     have T167 := xm p3_
     clear p1_ p2_ p3_
     have HP_ := xm HL.out.size
     have GL_ := xm (Nat.le_refl 0)
     have ml_ := xm (below_step HL.out hb_)
     clear HL
     have HL := ml_
     clear ml_
     clear h0_ h1_ h2_
     have GL_ := xm (blk_lt BQ.out)
     have mq_ := xm (blk_below BQ.out hb_)
     clear BQ
     have BQ := mq_
     clear mq_
     have mk_ := xm (Kd.R_below F132.out hb_)
     clear F132
     have F132 := mk_
     clear mk_
     have mk_ := xm (Kd.R_below F138.out hb_)
     clear F138
     have F138 := mk_
     clear mk_
     have mk_ := xm (Kd.R_below F144.out hb_)
     clear F144
     have F144 := mk_
     clear mk_
     obtain ⟨nlo_, hnlo_⟩ : ∃ q_, q_ = wl5_.heap.size := ⟨_, rfl⟩
     obtain ⟨nhi_, hnhi_⟩ : ∃ q_, q_ = wl6_.heap.size := ⟨_, rfl⟩
     have mB_ : Aside0 (∀ k_, P153 k_ → nlo_ ≤ k_ ∧ k_ < nhi_) := xm (by rw [hnlo_, hnhi_]; exact B154.out)
     clear B154
     have B154 := mB_
     clear mB_
     have mB_ : Aside0 (∀ k_, P159 k_ → nlo_ ≤ k_ ∧ k_ < nhi_) := xm (by rw [hnlo_, hnhi_]; exact B160.out)
     clear B160
     have B160 := mB_
     clear mB_
     have mB_ : Aside0 (∀ k_, P165 k_ → nlo_ ≤ k_ ∧ k_ < nhi_) := xm (by rw [hnlo_, hnhi_]; exact B166.out)
     clear B166
     have B166 := mB_
     clear mB_
     have ZQ : Aside0 (w21_.heap.size ≤ gq_ ∧ gq_ < wl6_.heap.size ∧ w21_.heap.size ≤ nlo_ ∧ nlo_ ≤ nhi_ ∧ nhi_ ≤ wl6_.heap.size ∧ (gq_ < nlo_ ∨ nhi_ ≤ gq_)) := xm (by have z1_ := GL_.out; have z2_ := hb_.size; have z3_ := GQ.out; have z4_ := blk_lt BQ.out; have z5_ := HP_.out; omega)
     clear hnlo_ hnhi_
     clear hb_
     refine hK.out _ _ ⟨(pw_cell_below HL.out ((xc BKg1.out 0).trans rfl)), (pw_cell_below HL.out ((xc BKg1.out 1).trans rfl)), (pw_cell_below HL.out ((xc BKg1.out 2).trans rfl)), (pw_cell_below HL.out ((xc BKg1.out 3).trans rfl)), (pw_cell_below HL.out ((xc BKg1.out 4).trans rfl)), (pw_cell_below HL.out ((xc BKg3.out 0).trans rfl)), (pw_cell_below HL.out ((xc BKg3.out 1).trans rfl))⟩ (fun hHeld => ?_)
     clear hK K
     refine norm_ (a' := ?_) ?_ ?_
     rotate_left
     ·show Act.put _ (some 84) _ = _
      simp only [Act.put, xi, xj, xk, i64_w, i32_w]
      rfl
     refine px 5 11 319 (by kernel_rfl) ?_
     refine px 6 11 383 (by kernel_rfl) ?_
     refine px 7 11 511 (by kernel_rfl) ?_
     exact norm_ pB (hJ (.agg #[.slice A130 t129_0.length c131, .slice A136 t129_1.length c137, .slice A142 t129_2.length c143, .int .i64 t129_3, .int .i64 t129_4], .agg #[.int .i64 t148_0, .int .i64 t148_1], .tuple #[.agg #[.slice A150 t149_0.length c151, .slice A156 t149_1.length c157, .slice A162 t149_2.length c163, .int .i64 t149_3, .int .i64 t149_4], .bool t149_5], .pointer (some ⟨gq_, 0, none⟩), .tuple #[.agg #[.slice A150 t149_0.length c151, .slice A156 t149_1.length c157, .slice A162 t149_2.length c163, .int .i64 t149_3, .int .i64 t149_4], .bool t149_5], .agg #[.slice A150 t149_0.length c151, .slice A156 t149_1.length c157, .slice A162 t149_2.length c163, .int .i64 t149_3, .int .i64 t149_4], .bool t149_5) _ ⟨gq_, nlo_, nhi_, A150, c151, A156, c157, A162, c163, P153, P159, P165, rfl, rfl, rfl, rfl, rfl, BQ.out, HL.out, ZQ.out, F152.out, B154.out, T155.out, F158.out, B160.out, T161.out, F164.out, B166.out, T167.out⟩)
   ·refine value_ (v := .pointer (some ⟨wl3_.heap.size, 0, none⟩)) (w1 := wl3_.alloc (.cells #[.slice none 0 0, .slice none 0 0, .slice none 0 0, .int .i64 0, .int .i64 0] 53 (0, 0))) (by rfl) rfl zB ?_
    obtain ⟨wl4_, gq_, hgq_, hwq_, hbq_⟩ : ∃ (W_ : World) (g_ : Nat), g_ = wl3_.heap.size ∧ W_ = wl3_.alloc (.cells #[.slice none 0 0, .slice none 0 0, .slice none 0 0, .int .i64 0, .int .i64 0] 53 (0, 0)) ∧ True := ⟨_, _, rfl, rfl, trivial⟩
    rw [← hwq_, ← hgq_]
    have hb_ : Below wl3_.heap.size wl3_ wl4_ := by rw [hwq_]; exact xa (Below.refl _ _) _
    have BQ : Aside0 (wl4_.heap[gq_]? = some (.cells #[.slice none 0 0, .slice none 0 0, .slice none 0 0, .int .i64 0, .int .i64 0] 53 (0, 0))) := xm (by rw [hwq_, hgq_]; exact blk_new _ _)
    have GQ := xm (show w21_.heap.size ≤ gq_ ∧ gq_ < wl4_.heap.size from ⟨by rw [hgq_]; exact HL.out.size, blk_lt BQ.out⟩)
    have ml_ := xm (below_step HL.out hb_)
    clear HL
    have HL := ml_
    clear ml_
    have mk_ := xm (Kd.R_below F132.out hb_)
    clear F132
    have F132 := mk_
    clear mk_
    have mk_ := xm (Kd.R_below F138.out hb_)
    clear F138
    have F138 := mk_
    clear mk_
    have mk_ := xm (Kd.R_below F144.out hb_)
    clear F144
    have F144 := mk_
    clear mk_
    clear hb_ hgq_ hwq_ hbq_
    refine hK.out _ _ ⟨(pw_cell_below HL.out ((xc BKg1.out 0).trans rfl)), (pw_cell_below HL.out ((xc BKg1.out 1).trans rfl)), (pw_cell_below HL.out ((xc BKg1.out 2).trans rfl)), (pw_cell_below HL.out ((xc BKg1.out 3).trans rfl)), (pw_cell_below HL.out ((xc BKg1.out 4).trans rfl)), (pw_cell_below HL.out ((xc BKg3.out 0).trans rfl)), (pw_cell_below HL.out ((xc BKg3.out 1).trans rfl))⟩ (fun hHeld => ?_)
    clear hK K
    refine norm_ (a' := ?_) ?_ ?_
    rotate_left
    ·show Act.put _ (some 14) _ = _
     simp only [Act.put, xi, xj, xk, i64_w, i32_w]
     rfl
    refine one_ (i := 3) (N := some 83) #[Y,Y,Y,Y,Z,Z,Z,Z,Y,Z,Z] rfl rfl (by kernel_rfl) (by decide) (fun K hK => ?_)
    refine goes_ Try.func69 (by kernel_rfl) rfl #[.agg #[.int .i64 a1_0, .int .i64 a1_1]] (by rfl) rfl rfl mB ?_
    refine (laws_toMap.calls a1_0 a1_1 t148_0 t148_1 _ t148A.out).mono ?_
    rintro e wl5_ ⟨rfl, hb_⟩
    refine ⟨_, rfl, ?_⟩
    have ml_ := xm (below_step HL.out hb_)
    clear HL
    have HL := ml_
    clear ml_
    have GL_ := xm (blk_lt BQ.out)
    have mq_ := xm (blk_below BQ.out hb_)
    clear BQ
    have BQ := mq_
    clear mq_
    have mk_ := xm (Kd.R_below F132.out hb_)
    clear F132
    have F132 := mk_
    clear mk_
    have mk_ := xm (Kd.R_below F138.out hb_)
    clear F138
    have F138 := mk_
    clear mk_
    have mk_ := xm (Kd.R_below F144.out hb_)
    clear F144
    have F144 := mk_
    clear mk_
    clear hb_
    refine hK.out _ _ ⟨(pw_cell_below HL.out ((xc BKg1.out 0).trans rfl)), (pw_cell_below HL.out ((xc BKg1.out 1).trans rfl)), (pw_cell_below HL.out ((xc BKg1.out 2).trans rfl)), (pw_cell_below HL.out ((xc BKg1.out 3).trans rfl)), (pw_cell_below HL.out ((xc BKg1.out 4).trans rfl)), (pw_cell_below HL.out ((xc BKg3.out 0).trans rfl)), (pw_cell_below HL.out ((xc BKg3.out 1).trans rfl))⟩ (fun hHeld => ?_)
    clear hK K
    refine norm_ (a' := ?_) ?_ ?_
    rotate_left
    ·show Act.put _ (some 83) _ = _
     simp only [Act.put, xi, xj, xk, i64_w, i32_w]
     rfl
    refine one_ (i := 4) (N := some 84) #[Y,Y,Y,Y,Y,Z,Z,Z,Y,Z,Z] rfl rfl (by kernel_rfl) (by decide) (fun K hK => ?_)
    refine goes_ Try.func70 (by kernel_rfl) rfl #[.agg #[.slice A130 t129_0.length c131, .slice A136 t129_1.length c137, .slice A142 t129_2.length c143, .int .i64 t129_3, .int .i64 t129_4], .agg #[.int .i64 t148_0, .int .i64 t148_1]] (by rfl) rfl rfl mB ?_
    refine (impl_PushMap.calls k _ _ t129_0 _ _ t129_1 _ _ t129_2 t129_3 t129_4 t148_0 t148_1 t149_0 t149_1 t149_2 t149_3 t149_4 t149_5 _ (Kd.R_reads' F132.out).2.2 (Kd.R_reads' F132.out).2.1 (Kd.R_reads' F138.out).2.2 (Kd.R_reads' F138.out).2.1 (Kd.R_reads' F144.out).2.2 (Kd.R_reads' F144.out).2.1 t149A.out).mono ?_
    rintro e wl6_ ⟨v0_, v1_, v2_, rfl, h0_, h1_, h2_, hb_⟩
    refine ⟨_, rfl, ?_⟩
    obtain ⟨A150, c151, rfl⟩ := Kd.R_slice h0_
    obtain ⟨A156, c157, rfl⟩ := Kd.R_slice h1_
    obtain ⟨A162, c163, rfl⟩ := Kd.R_slice h2_
    obtain ⟨P153, p1_, p2_, p3_⟩ := hideT (base := w.heap.size) rfl h0_ (Nat.le_trans HB.out.size HL.out.size)
    have F152 := xm p1_
    have B154 := xm p2_
    have T155 := xm p3_
    clear p1_ p2_ p3_
    obtain ⟨P159, p1_, p2_, p3_⟩ := hideT (base := w.heap.size) rfl h1_ (Nat.le_trans HB.out.size HL.out.size)
    have F158 := xm p1_
    have B160 := xm p2_
    have T161 := xm p3_
    clear p1_ p2_ p3_
    obtain ⟨P165, p1_, p2_, p3_⟩ := hideT (base := w.heap.size) rfl h2_ (Nat.le_trans HB.out.size HL.out.size)
    have F164 := xm p1_
    have B166 := xm p2_
    have T167 := xm p3_
    clear p1_ p2_ p3_
    have HP_ := xm HL.out.size
    have GL_ := xm (Nat.le_refl 0)
    have ml_ := xm (below_step HL.out hb_)
    clear HL
    have HL := ml_
    clear ml_
    clear h0_ h1_ h2_
    have GL_ := xm (blk_lt BQ.out)
    have mq_ := xm (blk_below BQ.out hb_)
    clear BQ
    have BQ := mq_
    clear mq_
    have mk_ := xm (Kd.R_below F132.out hb_)
    clear F132
    have F132 := mk_
    clear mk_
    have mk_ := xm (Kd.R_below F138.out hb_)
    clear F138
    have F138 := mk_
    clear mk_
    have mk_ := xm (Kd.R_below F144.out hb_)
    clear F144
    have F144 := mk_
    clear mk_
    obtain ⟨nlo_, hnlo_⟩ : ∃ q_, q_ = wl5_.heap.size := ⟨_, rfl⟩
    obtain ⟨nhi_, hnhi_⟩ : ∃ q_, q_ = wl6_.heap.size := ⟨_, rfl⟩
    have mB_ : Aside0 (∀ k_, P153 k_ → nlo_ ≤ k_ ∧ k_ < nhi_) := xm (by rw [hnlo_, hnhi_]; exact B154.out)
    clear B154
    have B154 := mB_
    clear mB_
    have mB_ : Aside0 (∀ k_, P159 k_ → nlo_ ≤ k_ ∧ k_ < nhi_) := xm (by rw [hnlo_, hnhi_]; exact B160.out)
    clear B160
    have B160 := mB_
    clear mB_
    have mB_ : Aside0 (∀ k_, P165 k_ → nlo_ ≤ k_ ∧ k_ < nhi_) := xm (by rw [hnlo_, hnhi_]; exact B166.out)
    clear B166
    have B166 := mB_
    clear mB_
    have ZQ : Aside0 (w21_.heap.size ≤ gq_ ∧ gq_ < wl6_.heap.size ∧ w21_.heap.size ≤ nlo_ ∧ nlo_ ≤ nhi_ ∧ nhi_ ≤ wl6_.heap.size ∧ (gq_ < nlo_ ∨ nhi_ ≤ gq_)) := xm (by have z1_ := GL_.out; have z2_ := hb_.size; have z3_ := GQ.out; have z4_ := blk_lt BQ.out; have z5_ := HP_.out; omega)
    clear hnlo_ hnhi_
    clear hb_
    refine hK.out _ _ ⟨(pw_cell_below HL.out ((xc BKg1.out 0).trans rfl)), (pw_cell_below HL.out ((xc BKg1.out 1).trans rfl)), (pw_cell_below HL.out ((xc BKg1.out 2).trans rfl)), (pw_cell_below HL.out ((xc BKg1.out 3).trans rfl)), (pw_cell_below HL.out ((xc BKg1.out 4).trans rfl)), (pw_cell_below HL.out ((xc BKg3.out 0).trans rfl)), (pw_cell_below HL.out ((xc BKg3.out 1).trans rfl))⟩ (fun hHeld => ?_)
    clear hK K
    refine norm_ (a' := ?_) ?_ ?_
    rotate_left
    ·show Act.put _ (some 84) _ = _
     simp only [Act.put, xi, xj, xk, i64_w, i32_w]
     rfl
    refine px 5 11 319 (by kernel_rfl) ?_
    refine px 6 11 383 (by kernel_rfl) ?_
    refine px 7 11 511 (by kernel_rfl) ?_
    exact norm_ pB (hJ (.agg #[.slice A130 t129_0.length c131, .slice A136 t129_1.length c137, .slice A142 t129_2.length c143, .int .i64 t129_3, .int .i64 t129_4], .agg #[.int .i64 t148_0, .int .i64 t148_1], .tuple #[.agg #[.slice A150 t149_0.length c151, .slice A156 t149_1.length c157, .slice A162 t149_2.length c163, .int .i64 t149_3, .int .i64 t149_4], .bool t149_5], .pointer (some ⟨gq_, 0, none⟩), .tuple #[.agg #[.slice A150 t149_0.length c151, .slice A156 t149_1.length c157, .slice A162 t149_2.length c163, .int .i64 t149_3, .int .i64 t149_4], .bool t149_5], .agg #[.slice A150 t149_0.length c151, .slice A156 t149_1.length c157, .slice A162 t149_2.length c163, .int .i64 t149_3, .int .i64 t149_4], .bool t149_5) _ ⟨gq_, nlo_, nhi_, A150, c151, A156, c157, A162, c163, P153, P159, P165, rfl, rfl, rfl, rfl, rfl, BQ.out, HL.out, ZQ.out, F152.out, B154.out, T155.out, F158.out, B160.out, T161.out, F164.out, B166.out, T167.out⟩)
  ·refine value_ (v := .pointer (some ⟨w21_.heap.size, 0, none⟩)) (w1 := w21_.alloc (.cells #[.slice none 0 0, .slice none 0 0, .slice none 0 0, .int .i64 0, .int .i64 0] 53 (0, 0))) (by rfl) rfl zB ?_
   obtain ⟨wl3_, gq_, hgq_, hwq_, hbq_⟩ : ∃ (W_ : World) (g_ : Nat), g_ = w21_.heap.size ∧ W_ = w21_.alloc (.cells #[.slice none 0 0, .slice none 0 0, .slice none 0 0, .int .i64 0, .int .i64 0] 53 (0, 0)) ∧ True := ⟨_, _, rfl, rfl, trivial⟩
   rw [← hwq_, ← hgq_]
   have hb_ : Below w21_.heap.size w21_ wl3_ := by rw [hwq_]; exact xa (Below.refl _ _) _
   have BQ : Aside0 (wl3_.heap[gq_]? = some (.cells #[.slice none 0 0, .slice none 0 0, .slice none 0 0, .int .i64 0, .int .i64 0] 53 (0, 0))) := xm (by rw [hwq_, hgq_]; exact blk_new _ _)
   have GQ := xm (show w21_.heap.size ≤ gq_ ∧ gq_ < wl3_.heap.size from ⟨by rw [hgq_]; exact HL.out.size, blk_lt BQ.out⟩)
   have ml_ := xm (below_step HL.out hb_)
   clear HL
   have HL := ml_
   clear ml_
   clear hb_ hgq_ hwq_ hbq_
   refine hK.out _ _ ⟨(pw_cell_below HL.out ((xc BKg1.out 0).trans rfl)), (pw_cell_below HL.out ((xc BKg1.out 1).trans rfl)), (pw_cell_below HL.out ((xc BKg1.out 2).trans rfl)), (pw_cell_below HL.out ((xc BKg1.out 3).trans rfl)), (pw_cell_below HL.out ((xc BKg1.out 4).trans rfl)), (pw_cell_below HL.out ((xc BKg3.out 0).trans rfl)), (pw_cell_below HL.out ((xc BKg3.out 1).trans rfl))⟩ (fun hHeld => ?_)
   clear hK K
   refine norm_ (a' := ?_) ?_ ?_
   rotate_left
   ·show Act.put _ (some 14) _ = _
    simp only [Act.put, xi, xj, xk, i64_w, i32_w]
    rfl
   refine one_ (i := 1) (N := some 81) #[Y,Y,Y,Z,Z,Z,Z,Z,Y,Z,Z] rfl rfl (by kernel_rfl) (by decide) (fun K hK => ?_)
   refine goes_ Try.func35 (by kernel_rfl) rfl #[.agg #[.slice A0_0 l0_0.length c0_0, .slice A0_1 l0_1.length c0_1, .slice A0_2 l0_2.length c0_2, .int .i64 a0_3, .int .i64 a0_4]] (by rfl) rfl rfl mB ?_
   refine (laws_toWindow.calls k _ _ l0_0 _ _ l0_1 _ _ l0_2 a0_3 a0_4 t129_0 t129_1 t129_2 t129_3 t129_4 _ (Kd.C_below (Kd.C_below HR0_0.out HB.out) HL.out) HC0_0.out (Kd.C_below (Kd.C_below HR0_1.out HB.out) HL.out) HC0_1.out (Kd.C_below (Kd.C_below HR0_2.out HB.out) HL.out) HC0_2.out t129A.out).mono ?_
   rintro e wl4_ ⟨v0_, v1_, v2_, rfl, h0_, h1_, h2_, hb_⟩
   refine ⟨_, rfl, ?_⟩
   obtain ⟨A130, c131, rfl⟩ := Kd.R_slice h0_
   obtain ⟨A136, c137, rfl⟩ := Kd.R_slice h1_
   obtain ⟨A142, c143, rfl⟩ := Kd.R_slice h2_
   have F132 := xm h0_
   have F138 := xm h1_
   have F144 := xm h2_
   have ml_ := xm (below_step HL.out hb_)
   clear HL
   have HL := ml_
   clear ml_
   clear h0_ h1_ h2_
   have GL_ := xm (blk_lt BQ.out)
   have mq_ := xm (blk_below BQ.out hb_)
   clear BQ
   have BQ := mq_
   clear mq_
   clear hb_
   refine hK.out _ _ ⟨(pw_cell_below HL.out ((xc BKg1.out 0).trans rfl)), (pw_cell_below HL.out ((xc BKg1.out 1).trans rfl)), (pw_cell_below HL.out ((xc BKg1.out 2).trans rfl)), (pw_cell_below HL.out ((xc BKg1.out 3).trans rfl)), (pw_cell_below HL.out ((xc BKg1.out 4).trans rfl)), (pw_cell_below HL.out ((xc BKg3.out 0).trans rfl)), (pw_cell_below HL.out ((xc BKg3.out 1).trans rfl))⟩ (fun hHeld => ?_)
   clear hK K
   refine norm_ (a' := ?_) ?_ ?_
   rotate_left
   ·show Act.put _ (some 81) _ = _
    simp only [Act.put, xi, xj, xk, i64_w, i32_w]
    rfl
   refine one_ (i := 3) (N := some 83) #[Y,Y,Y,Y,Z,Z,Z,Z,Y,Z,Z] rfl rfl (by kernel_rfl) (by decide) (fun K hK => ?_)
   refine goes_ Try.func69 (by kernel_rfl) rfl #[.agg #[.int .i64 a1_0, .int .i64 a1_1]] (by rfl) rfl rfl mB ?_
   refine (laws_toMap.calls a1_0 a1_1 t148_0 t148_1 _ t148A.out).mono ?_
   rintro e wl5_ ⟨rfl, hb_⟩
   refine ⟨_, rfl, ?_⟩
   have ml_ := xm (below_step HL.out hb_)
   clear HL
   have HL := ml_
   clear ml_
   have GL_ := xm (blk_lt BQ.out)
   have mq_ := xm (blk_below BQ.out hb_)
   clear BQ
   have BQ := mq_
   clear mq_
   have mk_ := xm (Kd.R_below F132.out hb_)
   clear F132
   have F132 := mk_
   clear mk_
   have mk_ := xm (Kd.R_below F138.out hb_)
   clear F138
   have F138 := mk_
   clear mk_
   have mk_ := xm (Kd.R_below F144.out hb_)
   clear F144
   have F144 := mk_
   clear mk_
   clear hb_
   refine hK.out _ _ ⟨(pw_cell_below HL.out ((xc BKg1.out 0).trans rfl)), (pw_cell_below HL.out ((xc BKg1.out 1).trans rfl)), (pw_cell_below HL.out ((xc BKg1.out 2).trans rfl)), (pw_cell_below HL.out ((xc BKg1.out 3).trans rfl)), (pw_cell_below HL.out ((xc BKg1.out 4).trans rfl)), (pw_cell_below HL.out ((xc BKg3.out 0).trans rfl)), (pw_cell_below HL.out ((xc BKg3.out 1).trans rfl))⟩ (fun hHeld => ?_)
   clear hK K
   refine norm_ (a' := ?_) ?_ ?_
   rotate_left
   ·show Act.put _ (some 83) _ = _
    simp only [Act.put, xi, xj, xk, i64_w, i32_w]
    rfl
   refine one_ (i := 4) (N := some 84) #[Y,Y,Y,Y,Y,Z,Z,Z,Y,Z,Z] rfl rfl (by kernel_rfl) (by decide) (fun K hK => ?_)
   refine goes_ Try.func70 (by kernel_rfl) rfl #[.agg #[.slice A130 t129_0.length c131, .slice A136 t129_1.length c137, .slice A142 t129_2.length c143, .int .i64 t129_3, .int .i64 t129_4], .agg #[.int .i64 t148_0, .int .i64 t148_1]] (by rfl) rfl rfl mB ?_
   refine (impl_PushMap.calls k _ _ t129_0 _ _ t129_1 _ _ t129_2 t129_3 t129_4 t148_0 t148_1 t149_0 t149_1 t149_2 t149_3 t149_4 t149_5 _ (Kd.R_reads' F132.out).2.2 (Kd.R_reads' F132.out).2.1 (Kd.R_reads' F138.out).2.2 (Kd.R_reads' F138.out).2.1 (Kd.R_reads' F144.out).2.2 (Kd.R_reads' F144.out).2.1 t149A.out).mono ?_
   rintro e wl6_ ⟨v0_, v1_, v2_, rfl, h0_, h1_, h2_, hb_⟩
   refine ⟨_, rfl, ?_⟩
   obtain ⟨A150, c151, rfl⟩ := Kd.R_slice h0_
   obtain ⟨A156, c157, rfl⟩ := Kd.R_slice h1_
   obtain ⟨A162, c163, rfl⟩ := Kd.R_slice h2_
   obtain ⟨P153, p1_, p2_, p3_⟩ := hideT (base := w.heap.size) rfl h0_ (Nat.le_trans HB.out.size HL.out.size)
   have F152 := xm p1_
   have B154 := xm p2_
   have T155 := xm p3_
   clear p1_ p2_ p3_
   obtain ⟨P159, p1_, p2_, p3_⟩ := hideT (base := w.heap.size) rfl h1_ (Nat.le_trans HB.out.size HL.out.size)
   have F158 := xm p1_
   have B160 := xm p2_
   have T161 := xm p3_
   clear p1_ p2_ p3_
   obtain ⟨P165, p1_, p2_, p3_⟩ := hideT (base := w.heap.size) rfl h2_ (Nat.le_trans HB.out.size HL.out.size)
   have F164 := xm p1_
   have B166 := xm p2_
   have T167 := xm p3_
   clear p1_ p2_ p3_
   have HP_ := xm HL.out.size
   have GL_ := xm (Nat.le_refl 0)
   have ml_ := xm (below_step HL.out hb_)
   clear HL
   have HL := ml_
   clear ml_
   clear h0_ h1_ h2_
   have GL_ := xm (blk_lt BQ.out)
   have mq_ := xm (blk_below BQ.out hb_)
   clear BQ
   have BQ := mq_
   clear mq_
   have mk_ := xm (Kd.R_below F132.out hb_)
   clear F132
   have F132 := mk_
   clear mk_
   have mk_ := xm (Kd.R_below F138.out hb_)
   clear F138
   have F138 := mk_
   clear mk_
   have mk_ := xm (Kd.R_below F144.out hb_)
   clear F144
   have F144 := mk_
   clear mk_
   obtain ⟨nlo_, hnlo_⟩ : ∃ q_, q_ = wl5_.heap.size := ⟨_, rfl⟩
   obtain ⟨nhi_, hnhi_⟩ : ∃ q_, q_ = wl6_.heap.size := ⟨_, rfl⟩
   have mB_ : Aside0 (∀ k_, P153 k_ → nlo_ ≤ k_ ∧ k_ < nhi_) := xm (by rw [hnlo_, hnhi_]; exact B154.out)
   clear B154
   have B154 := mB_
   clear mB_
   have mB_ : Aside0 (∀ k_, P159 k_ → nlo_ ≤ k_ ∧ k_ < nhi_) := xm (by rw [hnlo_, hnhi_]; exact B160.out)
   clear B160
   have B160 := mB_
   clear mB_
   have mB_ : Aside0 (∀ k_, P165 k_ → nlo_ ≤ k_ ∧ k_ < nhi_) := xm (by rw [hnlo_, hnhi_]; exact B166.out)
   clear B166
   have B166 := mB_
   clear mB_
   have ZQ : Aside0 (w21_.heap.size ≤ gq_ ∧ gq_ < wl6_.heap.size ∧ w21_.heap.size ≤ nlo_ ∧ nlo_ ≤ nhi_ ∧ nhi_ ≤ wl6_.heap.size ∧ (gq_ < nlo_ ∨ nhi_ ≤ gq_)) := xm (by have z1_ := GL_.out; have z2_ := hb_.size; have z3_ := GQ.out; have z4_ := blk_lt BQ.out; have z5_ := HP_.out; omega)
   clear hnlo_ hnhi_
   clear hb_
   refine hK.out _ _ ⟨(pw_cell_below HL.out ((xc BKg1.out 0).trans rfl)), (pw_cell_below HL.out ((xc BKg1.out 1).trans rfl)), (pw_cell_below HL.out ((xc BKg1.out 2).trans rfl)), (pw_cell_below HL.out ((xc BKg1.out 3).trans rfl)), (pw_cell_below HL.out ((xc BKg1.out 4).trans rfl)), (pw_cell_below HL.out ((xc BKg3.out 0).trans rfl)), (pw_cell_below HL.out ((xc BKg3.out 1).trans rfl))⟩ (fun hHeld => ?_)
   clear hK K
   refine norm_ (a' := ?_) ?_ ?_
   rotate_left
   ·show Act.put _ (some 84) _ = _
    simp only [Act.put, xi, xj, xk, i64_w, i32_w]
    rfl
   refine px 5 11 319 (by kernel_rfl) ?_
   refine px 6 11 383 (by kernel_rfl) ?_
   refine px 7 11 511 (by kernel_rfl) ?_
   exact norm_ pB (hJ (.agg #[.slice A130 t129_0.length c131, .slice A136 t129_1.length c137, .slice A142 t129_2.length c143, .int .i64 t129_3, .int .i64 t129_4], .agg #[.int .i64 t148_0, .int .i64 t148_1], .tuple #[.agg #[.slice A150 t149_0.length c151, .slice A156 t149_1.length c157, .slice A162 t149_2.length c163, .int .i64 t149_3, .int .i64 t149_4], .bool t149_5], .pointer (some ⟨gq_, 0, none⟩), .tuple #[.agg #[.slice A150 t149_0.length c151, .slice A156 t149_1.length c157, .slice A162 t149_2.length c163, .int .i64 t149_3, .int .i64 t149_4], .bool t149_5], .agg #[.slice A150 t149_0.length c151, .slice A156 t149_1.length c157, .slice A162 t149_2.length c163, .int .i64 t149_3, .int .i64 t149_4], .bool t149_5) _ ⟨gq_, nlo_, nhi_, A150, c151, A156, c157, A162, c163, P153, P159, P165, rfl, rfl, rfl, rfl, rfl, BQ.out, HL.out, ZQ.out, F152.out, B154.out, T155.out, F158.out, B160.out, T161.out, F164.out, B166.out, T167.out⟩)
 intro s_ w22_ hF_
 obtain ⟨v0_, v1_, v2_, v3_, v4_, v5_, v6_⟩ := s_
 (try dsimp only at hF_)
 obtain ⟨g168, n169, n170, A150, c151, A156, c157, A162, c163, P153, P159, P165, e1_, e2_, e3_, e4_, e5_, hbk_, hb_, hz_, hr0_, hp0_, ht0_, hr1_, hp1_, ht1_, hr2_, hp2_, ht2_⟩ := hF_
 subst e1_ e2_ e3_ e4_ e5_
 have ZJ22 := xm hz_
 have Z22 := xm (hb_.size : w21_.heap.size ≤ w22_.heap.size)
 have hk_ := Kept.of_below hb_ (fun _ => False)
 have m0_ := xm (Kd.R_kept F30.out hk_ (fun _ _ h_ => h_))
 have m1_ := xm (Kd.R_kept F36.out hk_ (fun _ _ h_ => h_))
 have m2_ := xm (Kd.R_kept F42.out hk_ (fun _ _ h_ => h_))
 have m3_ := xm (Kd.R_kept F51.out hk_ (fun _ _ h_ => h_))
 have m4_ := xm (Kd.R_kept F57.out hk_ (fun _ _ h_ => h_))
 have m5_ := xm (Kd.R_kept F63.out hk_ (fun _ _ h_ => h_))
 have m6_ := xm (Kd.R_kept F76.out hk_ (fun _ _ h_ => h_))
 have m7_ := xm (Kd.R_kept F82.out hk_ (fun _ _ h_ => h_))
 have m8_ := xm (Kd.R_kept F88.out hk_ (fun _ _ h_ => h_))
 have m9_ := xm (Kd.R_kept F100.out hk_ (fun _ _ h_ => h_))
 have m10_ := xm (Kd.R_kept F106.out hk_ (fun _ _ h_ => h_))
 have m11_ := xm (Kd.R_kept F112.out hk_ (fun _ _ h_ => h_))
 have m12_ := xm (blk_kept BKg1.out hk_ (fun h_ => h_))
 have m13_ := xm (blk_kept BKg3.out hk_ (fun h_ => h_))
 have m14_ := xm (blk_kept BKg46.out hk_ (fun h_ => h_))
 have m15_ := xm (blk_kept BKg69.out hk_ (fun h_ => h_))
 have m16_ := xm (blk_kept BKg92.out hk_ (fun h_ => h_))
 clear F30 F36 F42 F51 F57 F63 F76 F82 F88 F100 F106 F112 BKg1 BKg3 BKg46 BKg69 BKg92
 have F30 := m0_
 have F36 := m1_
 have F42 := m2_
 have F51 := m3_
 have F57 := m4_
 have F63 := m5_
 have F76 := m6_
 have F82 := m7_
 have F88 := m8_
 have F100 := m9_
 have F106 := m10_
 have F112 := m11_
 have BKg1 := m12_
 have BKg3 := m13_
 have BKg46 := m14_
 have BKg69 := m15_
 have BKg92 := m16_
 clear m0_ m1_ m2_ m3_ m4_ m5_ m6_ m7_ m8_ m9_ m10_ m11_ m12_ m13_ m14_ m15_ m16_
 have m0_ := xm (below_step (w := w) HB.out hb_)
 clear HB
 have HB := m0_
 clear m0_
 have BKg168 := xm hbk_
 have GBg168 : Aside0 (w21_.heap.size ≤ g168 ∧ g168 < w22_.heap.size) := xm ⟨hz_.1, hz_.2.1⟩
 have F152 := xm hr0_
 have B154 := xm hp0_
 have T155 := xm ht0_
 have F158 := xm hr1_
 have B160 := xm hp1_
 have T161 := xm ht1_
 have F164 := xm hr2_
 have B166 := xm hp2_
 have T167 := xm ht2_
 clear hbk_ hb_ hz_ hk_ hr0_ hp0_ ht0_ hr1_ hp1_ ht1_ hr2_ hp2_ ht2_
 refine norm_ (a' := ?_) ?_ ?_
 rotate_left
 ·simp only [putAll, Act.put, xi, xj, xk]
  rfl
 obtain ⟨hcg168_0, hfg168_0, hcg168_1, hfg168_1, hcg168_2, hfg168_2, hcg168_3, hfg168_3, hcg168_4, hfg168_4⟩ := laws_FnExactPushMap.cs5 BKg168.out
 refine one_ (i := 9) (N := none) #[Y,Y,Y,Y,Y,Y,Y,Y,Y,Y,Z] rfl rfl (by kernel_rfl) (by decide) (fun K hK => ?_)
 refine skip_ (by rfl) rfl (w1 := (((((w22_.setCell ⟨g168, 0, none⟩ (.slice A150 t149_0.length c151)).setCell ⟨g168, 1, none⟩ (.slice A156 t149_1.length c157)).setCell ⟨g168, 2, none⟩ (.slice A162 t149_2.length c163)).setCell ⟨g168, 3, none⟩ (.int .i64 t149_3)).setCell ⟨g168, 4, none⟩ (.int .i64 t149_4))) zB ?_
 obtain ⟨w23_, hw_⟩ : ∃ W_ : World, W_ = (((((w22_.setCell ⟨g168, 0, none⟩ (.slice A150 t149_0.length c151)).setCell ⟨g168, 1, none⟩ (.slice A156 t149_1.length c157)).setCell ⟨g168, 2, none⟩ (.slice A162 t149_2.length c163)).setCell ⟨g168, 3, none⟩ (.int .i64 t149_3)).setCell ⟨g168, 4, none⟩ (.int .i64 t149_4)) := ⟨_, rfl⟩
 rw [← hw_]
 clear hcg168_0 hfg168_0 hcg168_1 hfg168_1 hcg168_2 hfg168_2 hcg168_3 hfg168_3 hcg168_4 hfg168_4
 have hk_ : Kept w22_ w23_ (fun k_ => k_ = g168) := (by rw [hw_]; exact kept_box (kept_box (kept_box (kept_box (kept_box (Kept.refl _ _) _ _) _ _) _ _) _ _) _ _)
 have hx_ : w23_.heap[g168]? = some (.cells #[.slice A150 t149_0.length c151, .slice A156 t149_1.length c157, .slice A162 t149_2.length c163, .int .i64 t149_3, .int .i64 t149_4] 53 (0, 0)) := (by rw [hw_]; refine blk_put (cs := #[.slice A150 t149_0.length c151, .slice A156 t149_1.length c157, .slice A162 t149_2.length c163, .int .i64 t149_3, .int .i64 0]) ?_ 4 _ rfl; refine blk_put (cs := #[.slice A150 t149_0.length c151, .slice A156 t149_1.length c157, .slice A162 t149_2.length c163, .int .i64 0, .int .i64 0]) ?_ 3 _ rfl; refine blk_put (cs := #[.slice A150 t149_0.length c151, .slice A156 t149_1.length c157, .slice none 0 0, .int .i64 0, .int .i64 0]) ?_ 2 _ rfl; refine blk_put (cs := #[.slice A150 t149_0.length c151, .slice none 0 0, .slice none 0 0, .int .i64 0, .int .i64 0]) ?_ 1 _ rfl; refine blk_put (cs := #[.slice none 0 0, .slice none 0 0, .slice none 0 0, .int .i64 0, .int .i64 0]) ?_ 0 _ rfl; exact BKg168.out)
 have Z23 := xm (hk_.1 : w22_.heap.size ≤ w23_.heap.size)
 have ge_ : w.heap.size ≤ g168 := (by have := GBg168.out; have := Z1.out; have := Z2.out; have := Z3.out; have := Z4.out; have := Z5.out; have := Z6.out; have := Z7.out; have := Z8.out; have := Z9.out; have := Z10.out; have := Z11.out; have := Z12.out; have := Z13.out; have := Z14.out; have := Z15.out; have := Z16.out; have := Z17.out; have := Z18.out; have := Z19.out; have := Z20.out; have := Z21.out; have := ZJ5.out; have := ZJ11.out; have := ZJ22.out; omega)
 have mb_ : Aside0 (Below w.heap.size w w23_) := xm (by rw [hw_]; exact xt (xt (xt (xt (xt (HB.out) ge_) ge_) ge_) ge_) ge_)
 have hk2_ := (Kept.mono hk_ (S' := fun k_ => g168 ≤ k_ ∧ k_ < g168 + 1) (fun k_ h_ => by have h_ : k_ = g168 := h_; exact ⟨by omega, by omega⟩))
 have m0_ := xm (Kd.R_kept F30.out hk2_ (fun k_ h_ h2_ => by have u1_ := B32.out k_ h_; have u2_ : g168 ≤ k_ ∧ k_ < g168 + 1 := h2_; have := Z6.out; have := Z7.out; have := Z8.out; have := Z9.out; have := Z10.out; have := Z11.out; have := Z12.out; have := Z13.out; have := Z14.out; have := Z15.out; have := Z16.out; have := Z17.out; have := Z18.out; have := Z19.out; have := Z20.out; have := Z21.out; have := ZJ5.out; have := ZJ11.out; have := ZJ22.out; omega))
 have m1_ := xm (Kd.R_kept F36.out hk2_ (fun k_ h_ h2_ => by have u1_ := B38.out k_ h_; have u2_ : g168 ≤ k_ ∧ k_ < g168 + 1 := h2_; have := Z6.out; have := Z7.out; have := Z8.out; have := Z9.out; have := Z10.out; have := Z11.out; have := Z12.out; have := Z13.out; have := Z14.out; have := Z15.out; have := Z16.out; have := Z17.out; have := Z18.out; have := Z19.out; have := Z20.out; have := Z21.out; have := ZJ5.out; have := ZJ11.out; have := ZJ22.out; omega))
 have m2_ := xm (Kd.R_kept F42.out hk2_ (fun k_ h_ h2_ => by have u1_ := B44.out k_ h_; have u2_ : g168 ≤ k_ ∧ k_ < g168 + 1 := h2_; have := Z6.out; have := Z7.out; have := Z8.out; have := Z9.out; have := Z10.out; have := Z11.out; have := Z12.out; have := Z13.out; have := Z14.out; have := Z15.out; have := Z16.out; have := Z17.out; have := Z18.out; have := Z19.out; have := Z20.out; have := Z21.out; have := ZJ5.out; have := ZJ11.out; have := ZJ22.out; omega))
 have m3_ := xm (Kd.R_kept F51.out hk2_ (fun k_ h_ h2_ => by have u1_ := B55.out k_ h_; have u2_ : g168 ≤ k_ ∧ k_ < g168 + 1 := h2_; have := Z8.out; have := Z9.out; have := Z10.out; have := Z11.out; have := Z12.out; have := Z13.out; have := Z14.out; have := Z15.out; have := Z16.out; have := Z17.out; have := Z18.out; have := Z19.out; have := Z20.out; have := Z21.out; have := ZJ5.out; have := ZJ11.out; have := ZJ22.out; omega))
 have m4_ := xm (Kd.R_kept F57.out hk2_ (fun k_ h_ h2_ => by have u1_ := B61.out k_ h_; have u2_ : g168 ≤ k_ ∧ k_ < g168 + 1 := h2_; have := Z8.out; have := Z9.out; have := Z10.out; have := Z11.out; have := Z12.out; have := Z13.out; have := Z14.out; have := Z15.out; have := Z16.out; have := Z17.out; have := Z18.out; have := Z19.out; have := Z20.out; have := Z21.out; have := ZJ5.out; have := ZJ11.out; have := ZJ22.out; omega))
 have m5_ := xm (Kd.R_kept F63.out hk2_ (fun k_ h_ h2_ => by have u1_ := B67.out k_ h_; have u2_ : g168 ≤ k_ ∧ k_ < g168 + 1 := h2_; have := Z8.out; have := Z9.out; have := Z10.out; have := Z11.out; have := Z12.out; have := Z13.out; have := Z14.out; have := Z15.out; have := Z16.out; have := Z17.out; have := Z18.out; have := Z19.out; have := Z20.out; have := Z21.out; have := ZJ5.out; have := ZJ11.out; have := ZJ22.out; omega))
 have m6_ := xm (Kd.R_kept F76.out hk2_ (fun k_ h_ h2_ => by have u1_ := B78.out k_ h_; have u2_ : g168 ≤ k_ ∧ k_ < g168 + 1 := h2_; have := Z12.out; have := Z13.out; have := Z14.out; have := Z15.out; have := Z16.out; have := Z17.out; have := Z18.out; have := Z19.out; have := Z20.out; have := Z21.out; have := ZJ5.out; have := ZJ11.out; have := ZJ22.out; omega))
 have m7_ := xm (Kd.R_kept F82.out hk2_ (fun k_ h_ h2_ => by have u1_ := B84.out k_ h_; have u2_ : g168 ≤ k_ ∧ k_ < g168 + 1 := h2_; have := Z12.out; have := Z13.out; have := Z14.out; have := Z15.out; have := Z16.out; have := Z17.out; have := Z18.out; have := Z19.out; have := Z20.out; have := Z21.out; have := ZJ5.out; have := ZJ11.out; have := ZJ22.out; omega))
 have m8_ := xm (Kd.R_kept F88.out hk2_ (fun k_ h_ h2_ => by have u1_ := B90.out k_ h_; have u2_ : g168 ≤ k_ ∧ k_ < g168 + 1 := h2_; have := Z12.out; have := Z13.out; have := Z14.out; have := Z15.out; have := Z16.out; have := Z17.out; have := Z18.out; have := Z19.out; have := Z20.out; have := Z21.out; have := ZJ5.out; have := ZJ11.out; have := ZJ22.out; omega))
 have m9_ := xm (Kd.R_kept F100.out hk2_ (fun k_ h_ h2_ => by have u1_ := B104.out k_ h_; have u2_ : g168 ≤ k_ ∧ k_ < g168 + 1 := h2_; have := Z16.out; have := Z17.out; have := Z18.out; have := Z19.out; have := Z20.out; have := Z21.out; have := ZJ5.out; have := ZJ11.out; have := ZJ22.out; omega))
 have m10_ := xm (Kd.R_kept F106.out hk2_ (fun k_ h_ h2_ => by have u1_ := B110.out k_ h_; have u2_ : g168 ≤ k_ ∧ k_ < g168 + 1 := h2_; have := Z16.out; have := Z17.out; have := Z18.out; have := Z19.out; have := Z20.out; have := Z21.out; have := ZJ5.out; have := ZJ11.out; have := ZJ22.out; omega))
 have m11_ := xm (Kd.R_kept F112.out hk2_ (fun k_ h_ h2_ => by have u1_ := B116.out k_ h_; have u2_ : g168 ≤ k_ ∧ k_ < g168 + 1 := h2_; have := Z16.out; have := Z17.out; have := Z18.out; have := Z19.out; have := Z20.out; have := Z21.out; have := ZJ5.out; have := ZJ11.out; have := ZJ22.out; omega))
 have m12_ := xm (Kd.R_kept F152.out hk2_ (fun k_ h_ h2_ => by have u1_ := B154.out k_ h_; have u2_ : g168 ≤ k_ ∧ k_ < g168 + 1 := h2_; have := ZJ5.out; have := ZJ11.out; have := ZJ22.out; omega))
 have m13_ := xm (Kd.R_kept F158.out hk2_ (fun k_ h_ h2_ => by have u1_ := B160.out k_ h_; have u2_ : g168 ≤ k_ ∧ k_ < g168 + 1 := h2_; have := ZJ5.out; have := ZJ11.out; have := ZJ22.out; omega))
 have m14_ := xm (Kd.R_kept F164.out hk2_ (fun k_ h_ h2_ => by have u1_ := B166.out k_ h_; have u2_ : g168 ≤ k_ ∧ k_ < g168 + 1 := h2_; have := ZJ5.out; have := ZJ11.out; have := ZJ22.out; omega))
 have m15_ := xm (blk_kept BKg1.out hk2_ (fun h2_ => by have u1_ := GBg1.out; have u2_ : g168 ≤ g1 ∧ g1 < g168 + 1 := h2_; have := Z2.out; have := Z3.out; have := Z4.out; have := Z5.out; have := Z6.out; have := Z7.out; have := Z8.out; have := Z9.out; have := Z10.out; have := Z11.out; have := Z12.out; have := Z13.out; have := Z14.out; have := Z15.out; have := Z16.out; have := Z17.out; have := Z18.out; have := Z19.out; have := Z20.out; have := Z21.out; have := ZJ5.out; have := ZJ11.out; have := ZJ22.out; omega))
 have m16_ := xm (blk_kept BKg3.out hk2_ (fun h2_ => by have u1_ := GBg3.out; have u2_ : g168 ≤ g3 ∧ g3 < g168 + 1 := h2_; have := Z3.out; have := Z4.out; have := Z5.out; have := Z6.out; have := Z7.out; have := Z8.out; have := Z9.out; have := Z10.out; have := Z11.out; have := Z12.out; have := Z13.out; have := Z14.out; have := Z15.out; have := Z16.out; have := Z17.out; have := Z18.out; have := Z19.out; have := Z20.out; have := Z21.out; have := ZJ5.out; have := ZJ11.out; have := ZJ22.out; omega))
 have m17_ := xm (blk_kept BKg46.out hk2_ (fun h2_ => by have u1_ := GBg46.out; have u2_ : g168 ≤ g46 ∧ g46 < g168 + 1 := h2_; have := Z6.out; have := Z7.out; have := Z8.out; have := Z9.out; have := Z10.out; have := Z11.out; have := Z12.out; have := Z13.out; have := Z14.out; have := Z15.out; have := Z16.out; have := Z17.out; have := Z18.out; have := Z19.out; have := Z20.out; have := Z21.out; have := ZJ5.out; have := ZJ11.out; have := ZJ22.out; omega))
 have m18_ := xm (blk_kept BKg69.out hk2_ (fun h2_ => by have u1_ := GBg69.out; have u2_ : g168 ≤ g69 ∧ g69 < g168 + 1 := h2_; have := Z9.out; have := Z10.out; have := Z11.out; have := Z12.out; have := Z13.out; have := Z14.out; have := Z15.out; have := Z16.out; have := Z17.out; have := Z18.out; have := Z19.out; have := Z20.out; have := Z21.out; have := ZJ5.out; have := ZJ11.out; have := ZJ22.out; omega))
 have m19_ := xm (blk_kept BKg92.out hk2_ (fun h2_ => by have u1_ := GBg92.out; have u2_ : g168 ≤ g92 ∧ g92 < g168 + 1 := h2_; have := Z12.out; have := Z13.out; have := Z14.out; have := Z15.out; have := Z16.out; have := Z17.out; have := Z18.out; have := Z19.out; have := Z20.out; have := Z21.out; have := ZJ5.out; have := ZJ11.out; have := ZJ22.out; omega))
 clear F30 F36 F42 F51 F57 F63 F76 F82 F88 F100 F106 F112 F152 F158 F164 BKg1 BKg3 BKg46 BKg69 BKg92
 have F30 := m0_
 have F36 := m1_
 have F42 := m2_
 have F51 := m3_
 have F57 := m4_
 have F63 := m5_
 have F76 := m6_
 have F82 := m7_
 have F88 := m8_
 have F100 := m9_
 have F106 := m10_
 have F112 := m11_
 have F152 := m12_
 have F158 := m13_
 have F164 := m14_
 have BKg1 := m15_
 have BKg3 := m16_
 have BKg46 := m17_
 have BKg69 := m18_
 have BKg92 := m19_
 clear m0_ m1_ m2_ m3_ m4_ m5_ m6_ m7_ m8_ m9_ m10_ m11_ m12_ m13_ m14_ m15_ m16_ m17_ m18_ m19_
 clear HB BKg168
 have HB := mb_
 have BKg168 := xm hx_
 clear mb_ hx_ hk_ hk2_ hw_ ge_
 refine hK.out _ _ ⟨((xc BKg1.out 0).trans rfl), ((xc BKg1.out 1).trans rfl), ((xc BKg1.out 2).trans rfl), ((xc BKg1.out 3).trans rfl), ((xc BKg1.out 4).trans rfl), ((xc BKg3.out 0).trans rfl), ((xc BKg3.out 1).trans rfl)⟩ (fun hHeld => ?_)
 clear hK K
 refine px 10 11 2047 (by kernel_rfl) ?_
 refine done_ (by kernel_rfl) ?_
 (try clear hHeld)
 obtain ⟨hcg1_0, hfg1_0, hcg1_1, hfg1_1, hcg1_2, hfg1_2, hcg1_3, hfg1_3, hcg1_4, hfg1_4⟩ := laws_FnExactPushMap.cs5 BKg1.out
 obtain ⟨hcg3_0, hfg3_0, hcg3_1, hfg3_1⟩ := laws_FnExactPushMap.cs2 BKg3.out
 obtain ⟨hcg46_0, hfg46_0, hcg46_1, hfg46_1, hcg46_2, hfg46_2, hcg46_3, hfg46_3, hcg46_4, hfg46_4⟩ := laws_FnExactPushMap.cs5 BKg46.out
 obtain ⟨hcg69_0, hfg69_0, hcg69_1, hfg69_1, hcg69_2, hfg69_2, hcg69_3, hfg69_3, hcg69_4, hfg69_4⟩ := laws_FnExactPushMap.cs5 BKg69.out
 obtain ⟨hcg92_0, hfg92_0, hcg92_1, hfg92_1, hcg92_2, hfg92_2, hcg92_3, hfg92_3, hcg92_4, hfg92_4⟩ := laws_FnExactPushMap.cs5 BKg92.out
 obtain ⟨hcg168_0, hfg168_0, hcg168_1, hfg168_1, hcg168_2, hfg168_2, hcg168_3, hfg168_3, hcg168_4, hfg168_4⟩ := laws_FnExactPushMap.cs5 BKg168.out
 go_wp2_with (first
  | ((with_reducible refine gate_callee (f := 37) rfl ?_); refine goesL_ (some 89) rfl rfl Try.func37 (by kernel_rfl) rfl #[.agg #[.slice A150 t149_0.length c151, .slice A156 t149_1.length c157, .slice A162 t149_2.length c163, .int .i64 t149_3, .int .i64 t149_4], .agg #[.slice A28 t27_0.length c29, .slice A34 t27_1.length c35, .slice A40 t27_2.length c41, .int .i64 t27_3, .int .i64 t27_4]] rfl mB ?_; refine (laws_eqWindow.calls k _ _ t149_0 _ _ t149_1 _ _ t149_2 t149_3 t149_4 _ _ t27_0 _ _ t27_1 _ _ t27_2 t27_3 t27_4 true _ (Kd.R_reads' F152.out).2.2 (Kd.R_reads' F152.out).2.1 (Kd.R_reads' F158.out).2.2 (Kd.R_reads' F158.out).2.1 (Kd.R_reads' F164.out).2.2 (Kd.R_reads' F164.out).2.1 (Kd.R_reads' F30.out).2.2 (Kd.R_reads' F30.out).2.1 (Kd.R_reads' F36.out).2.2 (Kd.R_reads' F36.out).2.1 (Kd.R_reads' F42.out).2.2 (Kd.R_reads' F42.out).2.1 t172A.out).mono ?_; rintro e w24_ ⟨rfl, hb_⟩; refine ⟨_, rfl, ?_⟩; have Z24 := xm (hb_.size : w23_.heap.size ≤ w24_.heap.size); have hk_ := Kept.of_below hb_ (fun _ => False); have m0_ := xm (Kd.R_kept F30.out hk_ (fun _ _ h_ => h_)); have m1_ := xm (Kd.R_kept F36.out hk_ (fun _ _ h_ => h_)); have m2_ := xm (Kd.R_kept F42.out hk_ (fun _ _ h_ => h_)); have m3_ := xm (Kd.R_kept F51.out hk_ (fun _ _ h_ => h_)); have m4_ := xm (Kd.R_kept F57.out hk_ (fun _ _ h_ => h_)); have m5_ := xm (Kd.R_kept F63.out hk_ (fun _ _ h_ => h_)); have m6_ := xm (Kd.R_kept F76.out hk_ (fun _ _ h_ => h_)); have m7_ := xm (Kd.R_kept F82.out hk_ (fun _ _ h_ => h_)); have m8_ := xm (Kd.R_kept F88.out hk_ (fun _ _ h_ => h_)); have m9_ := xm (Kd.R_kept F100.out hk_ (fun _ _ h_ => h_)); have m10_ := xm (Kd.R_kept F106.out hk_ (fun _ _ h_ => h_)); have m11_ := xm (Kd.R_kept F112.out hk_ (fun _ _ h_ => h_)); have m12_ := xm (Kd.R_kept F152.out hk_ (fun _ _ h_ => h_)); have m13_ := xm (Kd.R_kept F158.out hk_ (fun _ _ h_ => h_)); have m14_ := xm (Kd.R_kept F164.out hk_ (fun _ _ h_ => h_)); have m15_ := xm (blk_kept BKg1.out hk_ (fun h_ => h_)); have m16_ := xm (blk_kept BKg3.out hk_ (fun h_ => h_)); have m17_ := xm (blk_kept BKg46.out hk_ (fun h_ => h_)); have m18_ := xm (blk_kept BKg69.out hk_ (fun h_ => h_)); have m19_ := xm (blk_kept BKg92.out hk_ (fun h_ => h_)); have m20_ := xm (blk_kept BKg168.out hk_ (fun h_ => h_)); clear F30 F36 F42 F51 F57 F63 F76 F82 F88 F100 F106 F112 F152 F158 F164 BKg1 BKg3 BKg46 BKg69 BKg92 BKg168; have F30 := m0_; have F36 := m1_; have F42 := m2_; have F51 := m3_; have F57 := m4_; have F63 := m5_; have F76 := m6_; have F82 := m7_; have F88 := m8_; have F100 := m9_; have F106 := m10_; have F112 := m11_; have F152 := m12_; have F158 := m13_; have F164 := m14_; have BKg1 := m15_; have BKg3 := m16_; have BKg46 := m17_; have BKg69 := m18_; have BKg92 := m19_; have BKg168 := m20_; clear m0_ m1_ m2_ m3_ m4_ m5_ m6_ m7_ m8_ m9_ m10_ m11_ m12_ m13_ m14_ m15_ m16_ m17_ m18_ m19_ m20_; have m0_ := xm (below_step (w := w) HB.out hb_); clear HB; have HB := m0_; clear m0_ hb_ hk_; clear hcg1_0 hfg1_0 hcg1_1 hfg1_1 hcg1_2 hfg1_2 hcg1_3 hfg1_3 hcg1_4 hfg1_4; obtain ⟨hcg1_0, hfg1_0, hcg1_1, hfg1_1, hcg1_2, hfg1_2, hcg1_3, hfg1_3, hcg1_4, hfg1_4⟩ := laws_FnExactPushMap.cs5 BKg1.out; clear hcg3_0 hfg3_0 hcg3_1 hfg3_1; obtain ⟨hcg3_0, hfg3_0, hcg3_1, hfg3_1⟩ := laws_FnExactPushMap.cs2 BKg3.out; clear hcg46_0 hfg46_0 hcg46_1 hfg46_1 hcg46_2 hfg46_2 hcg46_3 hfg46_3 hcg46_4 hfg46_4; obtain ⟨hcg46_0, hfg46_0, hcg46_1, hfg46_1, hcg46_2, hfg46_2, hcg46_3, hfg46_3, hcg46_4, hfg46_4⟩ := laws_FnExactPushMap.cs5 BKg46.out; clear hcg69_0 hfg69_0 hcg69_1 hfg69_1 hcg69_2 hfg69_2 hcg69_3 hfg69_3 hcg69_4 hfg69_4; obtain ⟨hcg69_0, hfg69_0, hcg69_1, hfg69_1, hcg69_2, hfg69_2, hcg69_3, hfg69_3, hcg69_4, hfg69_4⟩ := laws_FnExactPushMap.cs5 BKg69.out; clear hcg92_0 hfg92_0 hcg92_1 hfg92_1 hcg92_2 hfg92_2 hcg92_3 hfg92_3 hcg92_4 hfg92_4; obtain ⟨hcg92_0, hfg92_0, hcg92_1, hfg92_1, hcg92_2, hfg92_2, hcg92_3, hfg92_3, hcg92_4, hfg92_4⟩ := laws_FnExactPushMap.cs5 BKg92.out; clear hcg168_0 hfg168_0 hcg168_1 hfg168_1 hcg168_2 hfg168_2 hcg168_3 hfg168_3 hcg168_4 hfg168_4; obtain ⟨hcg168_0, hfg168_0, hcg168_1, hfg168_1, hcg168_2, hfg168_2, hcg168_3, hfg168_3, hcg168_4, hfg168_4⟩ := laws_FnExactPushMap.cs5 BKg168.out)
  | ((with_reducible refine gate_callee (f := 71) rfl ?_); refine goesL_ (some 98) rfl rfl Try.func71 (by kernel_rfl) rfl #[.agg #[.slice A74 t73_0.length c75, .slice A80 t73_1.length c81, .slice A86 t73_2.length c87, .int .i64 t73_3, .int .i64 t73_4], .int .i64 1] rfl mB ?_; refine calls_of_args (args' := #[.agg #[.slice A74 t125_1.length c75, .slice A80 t125_2.length c81, .slice A86 t125_3.length c87, .int .i64 t73_3, .int .i64 t73_4], .int .i64 1]) (by simp only [LEF76.out, LEF82.out, LEF88.out]) ?_; refine (laws_heldWindow.calls k _ _ t125_1 _ _ t125_2 _ _ t125_3 t73_3 t73_4 1 t175_0 _ (Kd.R_reads' F76.out).2.2 (by have z_ := Kd.R_reads' F76.out; have y_ := z_.1; have x_ := z_.2.1; omega) (Kd.R_reads' F82.out).2.2 (by have z_ := Kd.R_reads' F82.out; have y_ := z_.1; have x_ := z_.2.1; omega) (Kd.R_reads' F88.out).2.2 (by have z_ := Kd.R_reads' F88.out; have y_ := z_.1; have x_ := z_.2.1; omega) t175A.out).mono ?_; rintro e w25_ ⟨rfl, hb_⟩; refine ⟨_, rfl, ?_⟩; have Z25 := xm (hb_.size : w24_.heap.size ≤ w25_.heap.size); have hk_ := Kept.of_below hb_ (fun _ => False); have m0_ := xm (Kd.R_kept F30.out hk_ (fun _ _ h_ => h_)); have m1_ := xm (Kd.R_kept F36.out hk_ (fun _ _ h_ => h_)); have m2_ := xm (Kd.R_kept F42.out hk_ (fun _ _ h_ => h_)); have m3_ := xm (Kd.R_kept F51.out hk_ (fun _ _ h_ => h_)); have m4_ := xm (Kd.R_kept F57.out hk_ (fun _ _ h_ => h_)); have m5_ := xm (Kd.R_kept F63.out hk_ (fun _ _ h_ => h_)); have m6_ := xm (Kd.R_kept F76.out hk_ (fun _ _ h_ => h_)); have m7_ := xm (Kd.R_kept F82.out hk_ (fun _ _ h_ => h_)); have m8_ := xm (Kd.R_kept F88.out hk_ (fun _ _ h_ => h_)); have m9_ := xm (Kd.R_kept F100.out hk_ (fun _ _ h_ => h_)); have m10_ := xm (Kd.R_kept F106.out hk_ (fun _ _ h_ => h_)); have m11_ := xm (Kd.R_kept F112.out hk_ (fun _ _ h_ => h_)); have m12_ := xm (Kd.R_kept F152.out hk_ (fun _ _ h_ => h_)); have m13_ := xm (Kd.R_kept F158.out hk_ (fun _ _ h_ => h_)); have m14_ := xm (Kd.R_kept F164.out hk_ (fun _ _ h_ => h_)); have m15_ := xm (blk_kept BKg1.out hk_ (fun h_ => h_)); have m16_ := xm (blk_kept BKg3.out hk_ (fun h_ => h_)); have m17_ := xm (blk_kept BKg46.out hk_ (fun h_ => h_)); have m18_ := xm (blk_kept BKg69.out hk_ (fun h_ => h_)); have m19_ := xm (blk_kept BKg92.out hk_ (fun h_ => h_)); have m20_ := xm (blk_kept BKg168.out hk_ (fun h_ => h_)); clear F30 F36 F42 F51 F57 F63 F76 F82 F88 F100 F106 F112 F152 F158 F164 BKg1 BKg3 BKg46 BKg69 BKg92 BKg168; have F30 := m0_; have F36 := m1_; have F42 := m2_; have F51 := m3_; have F57 := m4_; have F63 := m5_; have F76 := m6_; have F82 := m7_; have F88 := m8_; have F100 := m9_; have F106 := m10_; have F112 := m11_; have F152 := m12_; have F158 := m13_; have F164 := m14_; have BKg1 := m15_; have BKg3 := m16_; have BKg46 := m17_; have BKg69 := m18_; have BKg92 := m19_; have BKg168 := m20_; clear m0_ m1_ m2_ m3_ m4_ m5_ m6_ m7_ m8_ m9_ m10_ m11_ m12_ m13_ m14_ m15_ m16_ m17_ m18_ m19_ m20_; have m0_ := xm (below_step (w := w) HB.out hb_); clear HB; have HB := m0_; clear m0_ hb_ hk_; clear hcg1_0 hfg1_0 hcg1_1 hfg1_1 hcg1_2 hfg1_2 hcg1_3 hfg1_3 hcg1_4 hfg1_4; obtain ⟨hcg1_0, hfg1_0, hcg1_1, hfg1_1, hcg1_2, hfg1_2, hcg1_3, hfg1_3, hcg1_4, hfg1_4⟩ := laws_FnExactPushMap.cs5 BKg1.out; clear hcg3_0 hfg3_0 hcg3_1 hfg3_1; obtain ⟨hcg3_0, hfg3_0, hcg3_1, hfg3_1⟩ := laws_FnExactPushMap.cs2 BKg3.out; clear hcg46_0 hfg46_0 hcg46_1 hfg46_1 hcg46_2 hfg46_2 hcg46_3 hfg46_3 hcg46_4 hfg46_4; obtain ⟨hcg46_0, hfg46_0, hcg46_1, hfg46_1, hcg46_2, hfg46_2, hcg46_3, hfg46_3, hcg46_4, hfg46_4⟩ := laws_FnExactPushMap.cs5 BKg46.out; clear hcg69_0 hfg69_0 hcg69_1 hfg69_1 hcg69_2 hfg69_2 hcg69_3 hfg69_3 hcg69_4 hfg69_4; obtain ⟨hcg69_0, hfg69_0, hcg69_1, hfg69_1, hcg69_2, hfg69_2, hcg69_3, hfg69_3, hcg69_4, hfg69_4⟩ := laws_FnExactPushMap.cs5 BKg69.out; clear hcg92_0 hfg92_0 hcg92_1 hfg92_1 hcg92_2 hfg92_2 hcg92_3 hfg92_3 hcg92_4 hfg92_4; obtain ⟨hcg92_0, hfg92_0, hcg92_1, hfg92_1, hcg92_2, hfg92_2, hcg92_3, hfg92_3, hcg92_4, hfg92_4⟩ := laws_FnExactPushMap.cs5 BKg92.out; clear hcg168_0 hfg168_0 hcg168_1 hfg168_1 hcg168_2 hfg168_2 hcg168_3 hfg168_3 hcg168_4 hfg168_4; obtain ⟨hcg168_0, hfg168_0, hcg168_1, hfg168_1, hcg168_2, hfg168_2, hcg168_3, hfg168_3, hcg168_4, hfg168_4⟩ := laws_FnExactPushMap.cs5 BKg168.out))
 go_wp2
 go_ret
 exact ⟨by first | rfl | (simp [errW_none, errW_some] <;> rfl) | (simp [*, errW_none, errW_some] <;> rfl), HB.out⟩

/-- THE ONE PURE STATEMENT of laws_FnExactPushMap. -/
def laws_FnExactPushMap.Pure : Prop := ∀ x0 : S47, wf47 x0 → ∀ x1 : S45, wf45 x1 → ∃ k, laws_FnExactPushMap.f k x0.f0 x0.f1 x0.f2 x0.f3.f0 x0.f3.f1 x1.f0 x1.f1 = some true

end Go.Proofs.Ytpbpglbldgpckaa.G
