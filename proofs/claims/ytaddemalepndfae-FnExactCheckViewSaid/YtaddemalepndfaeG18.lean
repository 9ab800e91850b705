/- Written by a program of this claim's own, out of the translation: functions of the program as plain functions, and that the calls answer as these. No conditions. -/
import Derived.Test.YtaddemalepndfaeG0
import Derived.Test.YtaddemalepndfaeG1
import Derived.Test.YtaddemalepndfaeG6
import Derived.Test.YtaddemalepndfaeG7
import Derived.Test.YtaddemalepndfaeG12
import Derived.Test.YtaddemalepndfaeG13
import Derived.Test.YtaddemalepndfaeG16
import Derived.Test.YtaddemalepndfaeG17
namespace Go.Proofs.Ytaddemalepndfae.G
open Go.RowKit Go.Proofs.Ytaddemalepndfae.X Go.Proofs.YtaddemalepndfaeW.PrintWords Go.Proofs.YtaddemalepndfaeW.PrintLast Go.Proofs.YtaddemalepndfaeW.PrintMore
attribute [local go_sem] max2_int min2_int max_two min_two max_three min_three max_four min_four   -- for this text's walks alone
set_option linter.unusedVariables false
set_option linter.unusedSimpArgs false

/-! ### laws_FnExactCheckView: function 3 -/
def laws_FnExactCheckView.f (k : Nat) (l0_0 : List Int) (l0_1 : List (S56)) : Option (Bool) := (laws_szView.f k l0_0 l0_1 1048576).bind fun t3b => (if t3b < 0 then (some true) else ((laws_toView.f k l0_0 l0_1).bind fun t5b => ((spec_CheckView.f k t5b.1 t5b.2).bind fun t18b => ((laws_toView.f k l0_0 l0_1).bind fun t25b => ((impl_CheckView.f k t25b.1 t25b.2).bind fun t41b => ((laws_eqIntS.f k t41b.1 t18b.1).bind fun t48b => (if t48b = true then (if (t41b.2 != t18b.2) = true then (some false) else ((laws_toView.f k l0_0 l0_1).bind fun t51b => ((laws_eqView.f k t25b.1 t25b.2 t51b.1 t51b.2).bind fun t64b => (if t64b = true then ((laws_markView.f k t25b.1 t25b.2 1).bind fun t66b => (if t66b.1 < 0 then (some false) else ((laws_eqIntS.f k t41b.1 t18b.1).bind fun t68b => (if t68b = true then (if (t41b.2 != t18b.2) = true then (some false) else ((laws_markIntS.f k t41b.1 1).bind fun t71b => ((laws_heldIntS.f k t71b.2 1).bind fun t72b => (if t72b < 0 then (some false) else (if t72b = t71b.1 then ((laws_toView.f k l0_0 l0_1).bind fun t75b => ((impl_CheckView.f k t75b.1 t75b.2).bind fun t88b => ((laws_eqIntS.f k t88b.1 t18b.1).bind fun t95b => (if t95b = true then (if (t88b.2 != t18b.2) = true then (some false) else ((laws_heldIntS.f k t71b.2 1).bind fun t98b => (if t98b < 0 then (some false) else (if t98b = t71b.1 then ((some true)) else (some false))))) else (some false))))) else (some false)))))) else (some false))))) else (some false))))) else (some false))))))))
theorem laws_FnExactCheckView.mono : ∀ a0_ a1_ k, LeO (laws_FnExactCheckView.f k a0_ a1_) (laws_FnExactCheckView.f (k + 1) a0_ a1_) := by
 intro a0_ a1_ k
 unfold laws_FnExactCheckView.f
 repeat' first
  | (with_reducible exact impl_CheckView.mono _ _ _)
  | (with_reducible exact laws_eqIntS.mono _ _ _)
  | (with_reducible exact laws_eqView.mono _ _ _ _ _)
  | (with_reducible exact laws_heldIntS.mono _ _ _)
  | (with_reducible exact laws_markIntS.mono _ _ _)
  | (with_reducible exact laws_markView.mono _ _ _ _)
  | (with_reducible exact laws_szView.mono _ _ _ _)
  | (with_reducible exact laws_toView.mono _ _ _)
  | (with_reducible exact spec_CheckView.mono _ _ _)
  | (with_reducible exact LeO.refl _)
  | (with_reducible exact LeO.none _)
  | (with_reducible refine LeO.ite ?_ ?_)
  | (with_reducible refine LeO.bind ?_ (fun _ => ?_))
  | exact impl_CheckView.mono _ _ _
  | exact laws_eqIntS.mono _ _ _
  | exact laws_eqView.mono _ _ _ _ _
  | exact laws_heldIntS.mono _ _ _
  | exact laws_markIntS.mono _ _ _
  | exact laws_markView.mono _ _ _ _
  | exact laws_szView.mono _ _ _ _
  | exact laws_toView.mono _ _ _
  | exact spec_CheckView.mono _ _ _
theorem laws_FnExactCheckView.cs2 {w : World} {g t : Nat} {a0 a1 : Value} (h : w.heap[g]? = some (.cells #[a0, a1] t (0, 0))) : w.cell? ⟨g, 0, none⟩ = some a0 ∧ w.frozen? ⟨g, 0, none⟩ = false ∧ w.cell? ⟨g, 1, none⟩ = some a1 ∧ w.frozen? ⟨g, 1, none⟩ = false := ⟨(xc h 0).trans rfl, xf h 0, (xc h 1).trans rfl, xf h 1⟩
set_option maxHeartbeats 8000000 in
set_option maxRecDepth 100000 in
theorem laws_FnExactCheckView.calls (k : Nat) (A0_0 : Option Addr) (c0_0 : Nat) (l0_0 : List Int) (A0_1 : Option Addr) (c0_1 : Nat) (l0_1 : List (S56)) (w : World) (hr0_0 : Kd.C (Kd.int .i64) w A0_0 l0_0.length l0_0) (hc0_0 : l0_0.length ≤ c0_0) (hr0_1 : Kd.C k56 w A0_1 l0_1.length l0_1) (hc0_1 : l0_1.length ≤ c0_1) (h : laws_FnExactCheckView.f k l0_0 l0_1 = some true) :
  Calls Try.prog 3 #[.agg #[.slice A0_0 l0_0.length c0_0, .slice A0_1 l0_1.length c0_1]] w fun e w' => e = .returned (.bool true) ∧ Below w.heap.size w w' := by
 have hu25 := Try.underlying25
 have hu31 := Try.underlying31
 have HR0_0 := xm hr0_0
 have HC0_0 := xm hc0_0
 clear hr0_0 hc0_0
 have HR0_1 := xm hr0_1
 have HC0_1 := xm hc0_1
 clear hr0_1 hc0_1
 have HB := xm (Below.refl w.heap.size w)
 unfold laws_FnExactCheckView.f at h
 replace h := Option.bind_eq_some_iff.mp h
 obtain ⟨t3_0, t3A0, h⟩ := h
 (try dsimp only at h)
 have t3A := xm t3A0
 clear t3A0
 by_cases c4 : t3_0 < 0
 ·have c4b := decide_eq_true c4
  clear c4
  clear h
  go_enter Try.func3, Try.ntmps3
  go_wp2_with (first
   | ((with_reducible refine gate_dst (N := 1) rfl ?_); refine box_event ?hgq2 (N := 1) ?hdq2 (cs := #[.slice A0_0 l0_0.length c0_0, .slice A0_1 l0_1.length c0_1]) (t := 25) ?hrq2 ?_; (case hdq2 => rfl); (case hgq2 => rfl); (case hrq2 => exact zB); intro g1 hg_ w1_ hbox_ hb_; have Z1 := xm (hb_.size : w.heap.size ≤ w1_.heap.size); have hk_ := Kept.of_below hb_ (fun _ => False); have m0_ := xm (below_step (w := w) HB.out hb_); clear HB; have HB := m0_; have BKg1 := xm hbox_; have GBg1 : Aside0 (w.heap.size ≤ g1 ∧ g1 < w1_.heap.size) := xm ⟨by rw [hg_]; exact Nat.le_refl _, blk_lt hbox_⟩; clear m0_ hb_ hbox_ hg_ hk_; obtain ⟨hcg1_0, hfg1_0, hcg1_1, hfg1_1⟩ := laws_FnExactCheckView.cs2 BKg1.out)
   | ((with_reducible refine gate_callee (f := 4) rfl ?_); refine goesL_ (some 16) rfl rfl Try.func4 (by kernel_rfl) rfl #[.agg #[.slice A0_0 l0_0.length c0_0, .slice A0_1 l0_1.length c0_1], .int .i64 1048576] rfl mB ?_; refine (laws_szView.calls k _ _ l0_0 _ _ l0_1 1048576 t3_0 _ (Kd.C_below HR0_0.out HB.out) HC0_0.out (Kd.C_below HR0_1.out HB.out) HC0_1.out t3A.out).mono ?_; rintro e w2_ ⟨rfl, hb_⟩; refine ⟨_, rfl, ?_⟩; have Z2 := xm (hb_.size : w1_.heap.size ≤ w2_.heap.size); have hk_ := Kept.of_below hb_ (fun _ => False); have m0_ := xm (blk_kept BKg1.out hk_ (fun h_ => h_)); clear BKg1; have BKg1 := m0_; clear m0_; have m0_ := xm (below_step (w := w) HB.out hb_); clear HB; have HB := m0_; clear m0_ hb_ hk_; clear hcg1_0 hfg1_0 hcg1_1 hfg1_1; obtain ⟨hcg1_0, hfg1_0, hcg1_1, hfg1_1⟩ := laws_FnExactCheckView.cs2 BKg1.out))
  go_wp2
  go_ret
  exact ⟨eB, HB.out⟩
 rw [if_neg c4] at h
 have c4b := decide_eq_false c4
 clear c4
 replace h := Option.bind_eq_some_iff.mp h
 obtain ⟨⟨t5_0, t5_1⟩, t5A0, h⟩ := h
 (try dsimp only at h)
 have t5A := xm t5A0
 clear t5A0
 replace h := Option.bind_eq_some_iff.mp h
 obtain ⟨⟨t18_0, t18_1⟩, t18A0, h⟩ := h
 (try dsimp only at h)
 have t18A := xm t18A0
 clear t18A0
 replace h := Option.bind_eq_some_iff.mp h
 obtain ⟨⟨t25_0, t25_1⟩, t25A0, h⟩ := h
 (try dsimp only at h)
 have t25A := xm t25A0
 clear t25A0
 replace h := Option.bind_eq_some_iff.mp h
 obtain ⟨⟨t41_0, t41_1⟩, t41A0, h⟩ := h
 (try dsimp only at h)
 have t41A := xm t41A0
 clear t41A0
 replace h := Option.bind_eq_some_iff.mp h
 obtain ⟨t48_0, t48A0, h⟩ := h
 (try dsimp only at h)
 have t48A := xm t48A0
 clear t48A0
 replace h := law_t h
 obtain ⟨c49, h⟩ := h
 subst c49
 replace h := law_f h
 obtain ⟨c50, h⟩ := h
 have c50b0 : (t41_1 != t18_1) = false := by simpa using c50
 have c50b1 : decide (t41_1 = t18_1) = true := by simpa using c50
 have c50b2 : (t41_1 == t18_1) = true := by simpa using c50
 clear c50
 replace h := Option.bind_eq_some_iff.mp h
 obtain ⟨⟨t51_0, t51_1⟩, t51A0, h⟩ := h
 (try dsimp only at h)
 have t51A := xm t51A0
 clear t51A0
 replace h := Option.bind_eq_some_iff.mp h
 obtain ⟨t64_0, t64A0, h⟩ := h
 (try dsimp only at h)
 have t64A := xm t64A0
 clear t64A0
 replace h := law_t h
 obtain ⟨c65, h⟩ := h
 subst c65
 replace h := Option.bind_eq_some_iff.mp h
 obtain ⟨⟨t66_0, t66_1, t66_2⟩, t66A0, h⟩ := h
 (try dsimp only at h)
 have t66A := xm t66A0
 clear t66A0
 replace h := law_f h
 obtain ⟨c67, h⟩ := h
 have c67b := decide_eq_false c67
 clear c67
 replace h := Option.bind_eq_some_iff.mp h
 obtain ⟨t68_0, t68A0, h⟩ := h
 (try dsimp only at h)
 have t68A := xm t68A0
 clear t68A0
 replace h := law_t h
 obtain ⟨c69, h⟩ := h
 subst c69
 replace h := law_f h
 obtain ⟨c70, h⟩ := h
 have c70b0 : (t41_1 != t18_1) = false := by simpa using c70
 have c70b1 : decide (t41_1 = t18_1) = true := by simpa using c70
 have c70b2 : (t41_1 == t18_1) = true := by simpa using c70
 clear c70
 replace h := Option.bind_eq_some_iff.mp h
 obtain ⟨⟨t71_0, t71_1⟩, t71A0, h⟩ := h
 (try dsimp only at h)
 have t71A := xm t71A0
 clear t71A0
 replace h := Option.bind_eq_some_iff.mp h
 obtain ⟨t72_0, t72A0, h⟩ := h
 (try dsimp only at h)
 have t72A := xm t72A0
 clear t72A0
 replace h := law_f h
 obtain ⟨c73, h⟩ := h
 have c73b := decide_eq_false c73
 clear c73
 replace h := law_t h
 obtain ⟨c74, h⟩ := h
 have c74b0 : (t72_0 == t71_0) = true := beq_iff_eq.mpr c74
 have c74b1 : (t72_0 != t71_0) = false := bne_eq_false_iff_eq.mpr c74
 have c74b2 : decide (t72_0 = t71_0) = true := decide_eq_true c74
 clear c74
 replace h := Option.bind_eq_some_iff.mp h
 obtain ⟨⟨t75_0, t75_1⟩, t75A0, h⟩ := h
 (try dsimp only at h)
 have t75A := xm t75A0
 clear t75A0
 replace h := Option.bind_eq_some_iff.mp h
 obtain ⟨⟨t88_0, t88_1⟩, t88A0, h⟩ := h
 (try dsimp only at h)
 have t88A := xm t88A0
 clear t88A0
 replace h := Option.bind_eq_some_iff.mp h
 obtain ⟨t95_0, t95A0, h⟩ := h
 (try dsimp only at h)
 have t95A := xm t95A0
 clear t95A0
 replace h := law_t h
 obtain ⟨c96, h⟩ := h
 subst c96
 replace h := law_f h
 obtain ⟨c97, h⟩ := h
 have c97b0 : (t88_1 != t18_1) = false := by simpa using c97
 have c97b1 : decide (t88_1 = t18_1) = true := by simpa using c97
 have c97b2 : (t88_1 == t18_1) = true := by simpa using c97
 clear c97
 replace h := Option.bind_eq_some_iff.mp h
 obtain ⟨t98_0, t98A0, h⟩ := h
 (try dsimp only at h)
 have t98A := xm t98A0
 clear t98A0
 replace h := law_f h
 obtain ⟨c99, h⟩ := h
 have c99b := decide_eq_false c99
 clear c99
 replace h := law_t h
 obtain ⟨c100, h⟩ := h
 have c100b0 : (t98_0 == t71_0) = true := beq_iff_eq.mpr c100
 have c100b1 : (t98_0 != t71_0) = false := bne_eq_false_iff_eq.mpr c100
 have c100b2 : decide (t98_0 = t71_0) = true := decide_eq_true c100
 clear c100
 clear h
 go_enter Try.func3, Try.ntmps3
 go_wp2_with (first
  | ((with_reducible refine gate_dst (N := 1) rfl ?_); refine box_event ?hgq2 (N := 1) ?hdq2 (cs := #[.slice A0_0 l0_0.length c0_0, .slice A0_1 l0_1.length c0_1]) (t := 25) ?hrq2 ?_; (case hdq2 => rfl); (case hgq2 => rfl); (case hrq2 => exact zB); intro g1 hg_ w1_ hbox_ hb_; have Z1 := xm (hb_.size : w.heap.size ≤ w1_.heap.size); have hk_ := Kept.of_below hb_ (fun _ => False); have m0_ := xm (below_step (w := w) HB.out hb_); clear HB; have HB := m0_; have BKg1 := xm hbox_; have GBg1 : Aside0 (w.heap.size ≤ g1 ∧ g1 < w1_.heap.size) := xm ⟨by rw [hg_]; exact Nat.le_refl _, blk_lt hbox_⟩; clear m0_ hb_ hbox_ hg_ hk_; obtain ⟨hcg1_0, hfg1_0, hcg1_1, hfg1_1⟩ := laws_FnExactCheckView.cs2 BKg1.out)
  | ((with_reducible refine gate_callee (f := 4) rfl ?_); refine goesL_ (some 16) rfl rfl Try.func4 (by kernel_rfl) rfl #[.agg #[.slice A0_0 l0_0.length c0_0, .slice A0_1 l0_1.length c0_1], .int .i64 1048576] rfl mB ?_; refine (laws_szView.calls k _ _ l0_0 _ _ l0_1 1048576 t3_0 _ (Kd.C_below HR0_0.out HB.out) HC0_0.out (Kd.C_below HR0_1.out HB.out) HC0_1.out t3A.out).mono ?_; rintro e w2_ ⟨rfl, hb_⟩; refine ⟨_, rfl, ?_⟩; have Z2 := xm (hb_.size : w1_.heap.size ≤ w2_.heap.size); have hk_ := Kept.of_below hb_ (fun _ => False); have m0_ := xm (blk_kept BKg1.out hk_ (fun h_ => h_)); clear BKg1; have BKg1 := m0_; clear m0_; have m0_ := xm (below_step (w := w) HB.out hb_); clear HB; have HB := m0_; clear m0_ hb_ hk_; clear hcg1_0 hfg1_0 hcg1_1 hfg1_1; obtain ⟨hcg1_0, hfg1_0, hcg1_1, hfg1_1⟩ := laws_FnExactCheckView.cs2 BKg1.out)
  | ((with_reducible refine gate_callee (f := 6) rfl ?_); refine goesL_ (some 21) rfl rfl Try.func6 (by kernel_rfl) rfl #[.agg #[.slice A0_0 l0_0.length c0_0, .slice A0_1 l0_1.length c0_1]] rfl mB ?_; refine (laws_toView.calls k _ _ l0_0 _ _ l0_1 t5_0 t5_1 _ (Kd.C_below HR0_0.out HB.out) HC0_0.out (Kd.C_below HR0_1.out HB.out) HC0_1.out t5A.out).mono ?_; rintro e w3_ ⟨v0_, v1_, rfl, h0_, h1_, hb_⟩; refine ⟨_, rfl, ?_⟩; have Z3 := xm (hb_.size : w2_.heap.size ≤ w3_.heap.size); have hk_ := Kept.of_below hb_ (fun _ => False); obtain ⟨A7, c8, rfl⟩ := Kd.R_slice h0_; obtain ⟨A13, c14, rfl⟩ := Kd.S_slice h1_; obtain ⟨P9, p1_, p2_, p3_⟩ := hideT (base := w.heap.size) rfl h0_ (szOf (w := w) HB.out); have F6 := xm p1_; have B10 : Aside0 (∀ k_, P9 k_ → w2_.heap.size ≤ k_ ∧ k_ < w3_.heap.size) := xm p2_; have T11 := xm p3_; clear p1_ p2_ p3_; obtain ⟨P15, p1_, p2_, p3_⟩ := hideS (base := w.heap.size) h1_ (szOf (w := w) HB.out); have F12 := xm p1_; have B16 : Aside0 (∀ k_, P15 k_ → w2_.heap.size ≤ k_ ∧ k_ < w3_.heap.size) := xm p2_; have T17 := xm p3_; clear p1_ p2_ p3_; have m0_ := xm (blk_kept BKg1.out hk_ (fun h_ => h_)); clear BKg1; have BKg1 := m0_; clear m0_; have m0_ := xm (below_step (w := w) HB.out hb_); clear HB; have HB := m0_; clear m0_ hb_ hk_ h0_ h1_; clear hcg1_0 hfg1_0 hcg1_1 hfg1_1; obtain ⟨hcg1_0, hfg1_0, hcg1_1, hfg1_1⟩ := laws_FnExactCheckView.cs2 BKg1.out)
  | ((with_reducible refine gate_callee (f := 5) rfl ?_); refine goesL_ (some 22) rfl rfl Try.func5 (by kernel_rfl) rfl #[.agg #[.slice A7 t5_0.length c8, .slice A13 t5_1.length c14]] rfl mB ?_; refine (spec_CheckView.calls k _ _ t5_0 _ _ t5_1 t18_0 t18_1 _ (Kd.R_reads' F6.out).2.2 (Kd.R_reads' F6.out).2.1 (Kd.S_reads' F12.out).2.2 (Kd.S_reads' F12.out).2.1 t18A.out).mono ?_; rintro e w4_ ⟨v0_, rfl, h0_, hb_⟩; refine ⟨_, rfl, ?_⟩; have Z4 := xm (hb_.size : w3_.heap.size ≤ w4_.heap.size); have hk_ := Kept.of_below hb_ (fun _ => False); obtain ⟨A20, c21, rfl⟩ := Kd.R_slice h0_; obtain ⟨P22, p1_, p2_, p3_⟩ := hideT (base := w.heap.size) rfl h0_ (szOf (w := w) HB.out); have F19 := xm p1_; have B23 : Aside0 (∀ k_, P22 k_ → w3_.heap.size ≤ k_ ∧ k_ < w4_.heap.size) := xm p2_; have T24 := xm p3_; clear p1_ p2_ p3_; have m0_ := xm (Kd.R_kept F6.out hk_ (fun _ _ h_ => h_)); have m1_ := xm (Kd.S_kept F12.out hk_ (fun _ _ h_ => h_)); have m2_ := xm (blk_kept BKg1.out hk_ (fun h_ => h_)); clear F6 F12 BKg1; have F6 := m0_; have F12 := m1_; have BKg1 := m2_; clear m0_ m1_ m2_; have m0_ := xm (below_step (w := w) HB.out hb_); clear HB; have HB := m0_; clear m0_ hb_ hk_ h0_; clear hcg1_0 hfg1_0 hcg1_1 hfg1_1; obtain ⟨hcg1_0, hfg1_0, hcg1_1, hfg1_1⟩ := laws_FnExactCheckView.cs2 BKg1.out)
  | ((with_reducible refine gate_callee (f := 6) rfl ?_); refine goesL_ (some 26) rfl rfl Try.func6 (by kernel_rfl) rfl #[.agg #[.slice A0_0 l0_0.length c0_0, .slice A0_1 l0_1.length c0_1]] rfl mB ?_; refine (laws_toView.calls k _ _ l0_0 _ _ l0_1 t25_0 t25_1 _ (Kd.C_below HR0_0.out HB.out) HC0_0.out (Kd.C_below HR0_1.out HB.out) HC0_1.out t25A.out).mono ?_; rintro e w5_ ⟨v0_, v1_, rfl, h0_, h1_, hb_⟩; refine ⟨_, rfl, ?_⟩; have Z5 := xm (hb_.size : w4_.heap.size ≤ w5_.heap.size); have hk_ := Kept.of_below hb_ (fun _ => False); obtain ⟨A27, c28, rfl⟩ := Kd.R_slice h0_; obtain ⟨A33, c34, rfl⟩ := Kd.S_slice h1_; obtain ⟨P29, p1_, p2_, p3_⟩ := hideT (base := w.heap.size) rfl h0_ (szOf (w := w) HB.out); have F26 := xm p1_; have B30 : Aside0 (∀ k_, P29 k_ → w4_.heap.size ≤ k_ ∧ k_ < w5_.heap.size) := xm p2_; have T31 := xm p3_; clear p1_ p2_ p3_; obtain ⟨P35, p1_, p2_, p3_⟩ := hideS (base := w.heap.size) h1_ (szOf (w := w) HB.out); have F32 := xm p1_; have B36 : Aside0 (∀ k_, P35 k_ → w4_.heap.size ≤ k_ ∧ k_ < w5_.heap.size) := xm p2_; have T37 := xm p3_; clear p1_ p2_ p3_; have m0_ := xm (Kd.R_kept F6.out hk_ (fun _ _ h_ => h_)); have m1_ := xm (Kd.S_kept F12.out hk_ (fun _ _ h_ => h_)); have m2_ := xm (Kd.R_kept F19.out hk_ (fun _ _ h_ => h_)); have m3_ := xm (blk_kept BKg1.out hk_ (fun h_ => h_)); clear F6 F12 F19 BKg1; have F6 := m0_; have F12 := m1_; have F19 := m2_; have BKg1 := m3_; clear m0_ m1_ m2_ m3_; have m0_ := xm (below_step (w := w) HB.out hb_); clear HB; have HB := m0_; clear m0_ hb_ hk_ h0_ h1_; clear hcg1_0 hfg1_0 hcg1_1 hfg1_1; obtain ⟨hcg1_0, hfg1_0, hcg1_1, hfg1_1⟩ := laws_FnExactCheckView.cs2 BKg1.out)
  | ((with_reducible refine gate_dst (N := 6) rfl ?_); refine box_event ?hgq39 (N := 6) ?hdq39 (cs := #[.slice none 0 0, .slice none 0 0]) (t := 31) ?hrq39 ?_; (case hdq39 => rfl); (case hgq39 => rfl); (case hrq39 => exact zB); intro g38 hg_ w6_ hbox_ hb_; have Z6 := xm (hb_.size : w5_.heap.size ≤ w6_.heap.size); have hk_ := Kept.of_below hb_ (fun _ => False); have m0_ := xm (Kd.R_kept F6.out hk_ (fun _ _ h_ => h_)); have m1_ := xm (Kd.S_kept F12.out hk_ (fun _ _ h_ => h_)); have m2_ := xm (Kd.R_kept F19.out hk_ (fun _ _ h_ => h_)); have m3_ := xm (Kd.R_kept F26.out hk_ (fun _ _ h_ => h_)); have m4_ := xm (Kd.S_kept F32.out hk_ (fun _ _ h_ => h_)); have m5_ := xm (blk_kept BKg1.out hk_ (fun h_ => h_)); clear F6 F12 F19 F26 F32 BKg1; have F6 := m0_; have F12 := m1_; have F19 := m2_; have F26 := m3_; have F32 := m4_; have BKg1 := m5_; clear m0_ m1_ m2_ m3_ m4_ m5_; have m0_ := xm (below_step (w := w) HB.out hb_); clear HB; have HB := m0_; have BKg38 := xm hbox_; have GBg38 : Aside0 (w5_.heap.size ≤ g38 ∧ g38 < w6_.heap.size) := xm ⟨by rw [hg_]; exact Nat.le_refl _, blk_lt hbox_⟩; clear m0_ hb_ hbox_ hg_ hk_; clear hcg1_0 hfg1_0 hcg1_1 hfg1_1; obtain ⟨hcg1_0, hfg1_0, hcg1_1, hfg1_1⟩ := laws_FnExactCheckView.cs2 BKg1.out; obtain ⟨hcg38_0, hfg38_0, hcg38_1, hfg38_1⟩ := laws_FnExactCheckView.cs2 BKg38.out)
  | ((with_reducible refine gate_store (t := 31) (p := 6) rfl ?_); refine store_event (t := 31) (p := 6) (v := ?voq40) (w1 := ((w6_.setCell ⟨g38, 0, none⟩ (.slice A27 t25_0.length c28)).setCell ⟨g38, 1, none⟩ (.slice A33 t25_1.length c34))) ?hgq40 ?hoq40 ?hnq40 ?hrq40 ?_; (case hoq40 => rfl); (case hgq40 => rfl); (case hnq40 => rfl); (case hrq40 => exact zB); intro w7_ hw_; have hk_ : Kept w6_ w7_ (fun k_ => k_ = g38) := (by rw [hw_]; exact kept_box (kept_box (Kept.refl _ _) _ _) _ _); have hx_ : w7_.heap[g38]? = some (.cells #[.slice A27 t25_0.length c28, .slice A33 t25_1.length c34] 31 (0, 0)) := (by rw [hw_]; refine blk_put (cs := #[.slice A27 t25_0.length c28, .slice none 0 0]) ?_ 1 _ rfl; refine blk_put (cs := #[.slice none 0 0, .slice none 0 0]) ?_ 0 _ rfl; exact BKg38.out); have Z7 := xm (hk_.1 : w6_.heap.size ≤ w7_.heap.size); have ge_ : w.heap.size ≤ g38 := (by have := GBg38.out; have := Z1.out; have := Z2.out; have := Z3.out; have := Z4.out; have := Z5.out; omega); have mb_ : Aside0 (Below w.heap.size w w7_) := xm (by rw [hw_]; exact xt (xt (HB.out) ge_) ge_); have hk2_ := (Kept.mono hk_ (S' := fun k_ => w5_.heap.size ≤ k_ ∧ k_ < w6_.heap.size) (fun k_ h_ => by have h_ : k_ = g38 := h_; subst h_; exact GBg38.out)); have m0_ := xm (Kd.R_kept F6.out hk2_ (fun k_ h_ h2_ => by have u1_ := B10.out k_ h_; have u2_ : w5_.heap.size ≤ k_ ∧ k_ < w6_.heap.size := h2_; have := Z4.out; have := Z5.out; omega)); have m1_ := xm (Kd.S_kept F12.out hk2_ (fun k_ h_ h2_ => by have u1_ := B16.out k_ h_; have u2_ : w5_.heap.size ≤ k_ ∧ k_ < w6_.heap.size := h2_; have := Z4.out; have := Z5.out; omega)); have m2_ := xm (Kd.R_kept F19.out hk2_ (fun k_ h_ h2_ => by have u1_ := B23.out k_ h_; have u2_ : w5_.heap.size ≤ k_ ∧ k_ < w6_.heap.size := h2_; have := Z5.out; omega)); have m3_ := xm (Kd.R_kept F26.out hk2_ (fun k_ h_ h2_ => by have u1_ := B30.out k_ h_; have u2_ : w5_.heap.size ≤ k_ ∧ k_ < w6_.heap.size := h2_; omega)); have m4_ := xm (Kd.S_kept F32.out hk2_ (fun k_ h_ h2_ => by have u1_ := B36.out k_ h_; have u2_ : w5_.heap.size ≤ k_ ∧ k_ < w6_.heap.size := h2_; omega)); have m5_ := xm (blk_kept BKg1.out hk2_ (fun h2_ => by have u1_ := GBg1.out; have u2_ : w5_.heap.size ≤ g1 ∧ g1 < w6_.heap.size := h2_; have := Z2.out; have := Z3.out; have := Z4.out; have := Z5.out; omega)); clear F6 F12 F19 F26 F32 BKg1; have F6 := m0_; have F12 := m1_; have F19 := m2_; have F26 := m3_; have F32 := m4_; have BKg1 := m5_; clear m0_ m1_ m2_ m3_ m4_ m5_; clear HB BKg38; have HB := mb_; have BKg38 := xm hx_; clear mb_ hx_ hk_ hk2_ hw_ ge_; clear hcg1_0 hfg1_0 hcg1_1 hfg1_1; obtain ⟨hcg1_0, hfg1_0, hcg1_1, hfg1_1⟩ := laws_FnExactCheckView.cs2 BKg1.out; clear hcg38_0 hfg38_0 hcg38_1 hfg38_1; obtain ⟨hcg38_0, hfg38_0, hcg38_1, hfg38_1⟩ := laws_FnExactCheckView.cs2 BKg38.out)
  | ((with_reducible refine gate_callee (f := 7) rfl ?_); refine goesL_ (some 29) rfl rfl Try.func7 (by kernel_rfl) rfl #[.agg #[.slice A27 t25_0.length c28, .slice A33 t25_1.length c34]] rfl mB ?_; refine (impl_CheckView.calls k _ _ t25_0 _ _ t25_1 t41_0 t41_1 _ (Kd.R_reads' F26.out).2.2 (Kd.R_reads' F26.out).2.1 (Kd.S_reads' F32.out).2.2 (Kd.S_reads' F32.out).2.1 t41A.out).mono ?_; rintro e w8_ ⟨v0_, rfl, h0_, hb_⟩; refine ⟨_, rfl, ?_⟩; have Z8 := xm (hb_.size : w7_.heap.size ≤ w8_.heap.size); have hk_ := Kept.of_below hb_ (fun _ => False); obtain ⟨A43, c44, rfl⟩ := Kd.R_slice h0_; obtain ⟨P45, p1_, p2_, p3_⟩ := hideT (base := w.heap.size) rfl h0_ (szOf (w := w) HB.out); have F42 := xm p1_; have B46 : Aside0 (∀ k_, P45 k_ → w7_.heap.size ≤ k_ ∧ k_ < w8_.heap.size) := xm p2_; have T47 := xm p3_; clear p1_ p2_ p3_; have m0_ := xm (Kd.R_kept F6.out hk_ (fun _ _ h_ => h_)); have m1_ := xm (Kd.S_kept F12.out hk_ (fun _ _ h_ => h_)); have m2_ := xm (Kd.R_kept F19.out hk_ (fun _ _ h_ => h_)); have m3_ := xm (Kd.R_kept F26.out hk_ (fun _ _ h_ => h_)); have m4_ := xm (Kd.S_kept F32.out hk_ (fun _ _ h_ => h_)); have m5_ := xm (blk_kept BKg1.out hk_ (fun h_ => h_)); have m6_ := xm (blk_kept BKg38.out hk_ (fun h_ => h_)); clear F6 F12 F19 F26 F32 BKg1 BKg38; have F6 := m0_; have F12 := m1_; have F19 := m2_; have F26 := m3_; have F32 := m4_; have BKg1 := m5_; have BKg38 := m6_; clear m0_ m1_ m2_ m3_ m4_ m5_ m6_; have m0_ := xm (below_step (w := w) HB.out hb_); clear HB; have HB := m0_; clear m0_ hb_ hk_ h0_; clear hcg1_0 hfg1_0 hcg1_1 hfg1_1; obtain ⟨hcg1_0, hfg1_0, hcg1_1, hfg1_1⟩ := laws_FnExactCheckView.cs2 BKg1.out; clear hcg38_0 hfg38_0 hcg38_1 hfg38_1; obtain ⟨hcg38_0, hfg38_0, hcg38_1, hfg38_1⟩ := laws_FnExactCheckView.cs2 BKg38.out)
  | ((with_reducible refine gate_callee (f := 8) rfl ?_); refine goesL_ (some 34) rfl rfl Try.func8 (by kernel_rfl) rfl #[.slice A43 t41_0.length c44, .slice A20 t18_0.length c21] rfl mB ?_; refine (laws_eqIntS.calls k _ _ t41_0 _ _ t18_0 true _ (Kd.R_reads' F42.out).2.2 (Kd.R_reads' F42.out).2.1 (Kd.R_reads' F19.out).2.2 (Kd.R_reads' F19.out).2.1 t48A.out).mono ?_; rintro e w9_ ⟨rfl, hb_⟩; refine ⟨_, rfl, ?_⟩; replace hb_ := hb_.below; have Z9 := xm (hb_.size : w8_.heap.size ≤ w9_.heap.size); have hk_ := Kept.of_below hb_ (fun _ => False); have m0_ := xm (Kd.R_kept F6.out hk_ (fun _ _ h_ => h_)); have m1_ := xm (Kd.S_kept F12.out hk_ (fun _ _ h_ => h_)); have m2_ := xm (Kd.R_kept F19.out hk_ (fun _ _ h_ => h_)); have m3_ := xm (Kd.R_kept F26.out hk_ (fun _ _ h_ => h_)); have m4_ := xm (Kd.S_kept F32.out hk_ (fun _ _ h_ => h_)); have m5_ := xm (Kd.R_kept F42.out hk_ (fun _ _ h_ => h_)); have m6_ := xm (blk_kept BKg1.out hk_ (fun h_ => h_)); have m7_ := xm (blk_kept BKg38.out hk_ (fun h_ => h_)); clear F6 F12 F19 F26 F32 F42 BKg1 BKg38; have F6 := m0_; have F12 := m1_; have F19 := m2_; have F26 := m3_; have F32 := m4_; have F42 := m5_; have BKg1 := m6_; have BKg38 := m7_; clear m0_ m1_ m2_ m3_ m4_ m5_ m6_ m7_; have m0_ := xm (below_step (w := w) HB.out hb_); clear HB; have HB := m0_; clear m0_ hb_ hk_; clear hcg1_0 hfg1_0 hcg1_1 hfg1_1; obtain ⟨hcg1_0, hfg1_0, hcg1_1, hfg1_1⟩ := laws_FnExactCheckView.cs2 BKg1.out; clear hcg38_0 hfg38_0 hcg38_1 hfg38_1; obtain ⟨hcg38_0, hfg38_0, hcg38_1, hfg38_1⟩ := laws_FnExactCheckView.cs2 BKg38.out))
 have hk_ := Kept.drew (Kept.refl w9_ (fun _ => False))
 have m0_ := xm (Kd.R_kept F6.out hk_ (fun _ _ h_ => h_))
 have m1_ := xm (Kd.S_kept F12.out hk_ (fun _ _ h_ => h_))
 have m2_ := xm (Kd.R_kept F19.out hk_ (fun _ _ h_ => h_))
 have m3_ := xm (Kd.R_kept F26.out hk_ (fun _ _ h_ => h_))
 have m4_ := xm (Kd.S_kept F32.out hk_ (fun _ _ h_ => h_))
 have m5_ := xm (Kd.R_kept F42.out hk_ (fun _ _ h_ => h_))
 have m6_ := xm (blk_kept BKg1.out hk_ (fun h_ => h_))
 have m7_ := xm (blk_kept BKg38.out hk_ (fun h_ => h_))
 clear F6 F12 F19 F26 F32 F42 BKg1 BKg38
 have F6 := m0_
 have F12 := m1_
 have F19 := m2_
 have F26 := m3_
 have F32 := m4_
 have F42 := m5_
 have BKg1 := m6_
 have BKg38 := m7_
 clear m0_ m1_ m2_ m3_ m4_ m5_ m6_ m7_
 have m0_ := xm (xd HB.out)
 clear HB hk_
 have HB := m0_
 clear m0_
 have Z10 : Aside0 (w9_.heap.size ≤ w9_.drew.heap.size) := xm (Nat.le_refl _)
 refine start_ (n := 5) (S := fun w' => w'.cell? ⟨g38, 0, none⟩ = some (.slice A27 t25_0.length c28) ∧ w'.cell? ⟨g38, 1, none⟩ = some (.slice A33 t25_1.length c34) ∧ w'.cell? ⟨g1, 0, none⟩ = some (.slice A0_0 l0_0.length c0_0) ∧ w'.cell? ⟨g1, 1, none⟩ = some (.slice A0_1 l0_1.length c0_1)) (ds := []) #[false, false, false, false, false] (by kernel_rfl) rfl rfl ⟨(xc BKg38.out 0).trans rfl, (xc BKg38.out 1).trans rfl, (xc BKg1.out 0).trans rfl, (xc BKg1.out 1).trans rfl⟩ (fun hHeld => ?_)
 generalize w9_.drew = w10_ at F6 F12 F19 F26 F32 F42 BKg1 BKg38 Z10 HB hHeld ⊢
 refine tx 0 5 1 rfl rfl (by kernel_rfl) hHeld (by rintro w' ⟨s0, s1, s2, s3⟩; go_simp; with_reducible rfl) ?_
 refine tx 1 5 3 rfl rfl (by kernel_rfl) hHeld (by rintro w' ⟨s0, s1, s2, s3⟩; go_simp; with_reducible rfl) ?_
 refine one_ (i := 2) (N := some 43) #[true, true, true, false, false] rfl rfl (by kernel_rfl) (by decide) (fun K hK => ?_)
 refine goes_ Try.func6 (by kernel_rfl) rfl #[.agg #[.slice A0_0 l0_0.length c0_0, .slice A0_1 l0_1.length c0_1]] (by rfl) rfl rfl mB ?_
 refine (laws_toView.calls k _ _ l0_0 _ _ l0_1 t51_0 t51_1 _ (Kd.C_below HR0_0.out HB.out) HC0_0.out (Kd.C_below HR0_1.out HB.out) HC0_1.out t51A.out).mono ?_
 rintro e w11_ ⟨v0_, v1_, rfl, h0_, h1_, hb_⟩
 refine ⟨_, rfl, ?_⟩
 have Z11 := xm (hb_.size : w10_.heap.size ≤ w11_.heap.size)
 have hk_ := Kept.of_below hb_ (fun _ => False)
 obtain ⟨A53, c54, rfl⟩ := Kd.R_slice h0_
 obtain ⟨A59, c60, rfl⟩ := Kd.S_slice h1_
 obtain ⟨P55, p1_, p2_, p3_⟩ := hideT (base := w.heap.size) rfl h0_ (szOf (w := w) HB.out)
 have F52 := xm p1_
 have B56 : Aside0 (∀ k_, P55 k_ → w10_.heap.size ≤ k_ ∧ k_ < w11_.heap.size) := xm p2_
 have T57 := xm p3_
 clear p1_ p2_ p3_
 obtain ⟨P61, p1_, p2_, p3_⟩ := hideS (base := w.heap.size) h1_ (szOf (w := w) HB.out)
 have F58 := xm p1_
 have B62 : Aside0 (∀ k_, P61 k_ → w10_.heap.size ≤ k_ ∧ k_ < w11_.heap.size) := xm p2_
 have T63 := xm p3_
 clear p1_ p2_ p3_
 have m0_ := xm (Kd.R_kept F6.out hk_ (fun _ _ h_ => h_))
 have m1_ := xm (Kd.S_kept F12.out hk_ (fun _ _ h_ => h_))
 have m2_ := xm (Kd.R_kept F19.out hk_ (fun _ _ h_ => h_))
 have m3_ := xm (Kd.R_kept F26.out hk_ (fun _ _ h_ => h_))
 have m4_ := xm (Kd.S_kept F32.out hk_ (fun _ _ h_ => h_))
 have m5_ := xm (Kd.R_kept F42.out hk_ (fun _ _ h_ => h_))
 have m6_ := xm (blk_kept BKg1.out hk_ (fun h_ => h_))
 have m7_ := xm (blk_kept BKg38.out hk_ (fun h_ => h_))
 clear F6 F12 F19 F26 F32 F42 BKg1 BKg38
 have F6 := m0_
 have F12 := m1_
 have F19 := m2_
 have F26 := m3_
 have F32 := m4_
 have F42 := m5_
 have BKg1 := m6_
 have BKg38 := m7_
 clear m0_ m1_ m2_ m3_ m4_ m5_ m6_ m7_
 have m0_ := xm (below_step (w := w) HB.out hb_)
 clear HB
 have HB := m0_
 clear m0_ hb_ hk_ h0_ h1_
 refine hK.out _ _ ⟨(xc BKg38.out 0).trans rfl, (xc BKg38.out 1).trans rfl, (xc BKg1.out 0).trans rfl, (xc BKg1.out 1).trans rfl⟩ (fun hHeld => nC ?_)
 clear hK K
 refine one_ (i := 3) (N := some 44) #[true, true, true, true, false] rfl rfl (by kernel_rfl) (by decide) (fun K hK => ?_)
 refine goes_ Try.func9 (by kernel_rfl) rfl #[.agg #[.slice A27 t25_0.length c28, .slice A33 t25_1.length c34], .agg #[.slice A53 t51_0.length c54, .slice A59 t51_1.length c60]] (by rfl) rfl rfl mB ?_
 refine (laws_eqView.calls k _ _ t25_0 _ _ t25_1 _ _ t51_0 _ _ t51_1 true _ (Kd.R_reads' F26.out).2.2 (Kd.R_reads' F26.out).2.1 (Kd.S_reads' F32.out).2.2 (Kd.S_reads' F32.out).2.1 (Kd.R_reads' F52.out).2.2 (Kd.R_reads' F52.out).2.1 (Kd.S_reads' F58.out).2.2 (Kd.S_reads' F58.out).2.1 t64A.out).mono ?_
 rintro e w12_ ⟨rfl, hb_⟩
 refine ⟨_, rfl, ?_⟩
 have Z12 := xm (hb_.size : w11_.heap.size ≤ w12_.heap.size)
 have hk_ := Kept.of_below hb_ (fun _ => False)
 have m0_ := xm (Kd.R_kept F6.out hk_ (fun _ _ h_ => h_))
 have m1_ := xm (Kd.S_kept F12.out hk_ (fun _ _ h_ => h_))
 have m2_ := xm (Kd.R_kept F19.out hk_ (fun _ _ h_ => h_))
 have m3_ := xm (Kd.R_kept F26.out hk_ (fun _ _ h_ => h_))
 have m4_ := xm (Kd.S_kept F32.out hk_ (fun _ _ h_ => h_))
 have m5_ := xm (Kd.R_kept F42.out hk_ (fun _ _ h_ => h_))
 have m6_ := xm (Kd.R_kept F52.out hk_ (fun _ _ h_ => h_))
 have m7_ := xm (Kd.S_kept F58.out hk_ (fun _ _ h_ => h_))
 have m8_ := xm (blk_kept BKg1.out hk_ (fun h_ => h_))
 have m9_ := xm (blk_kept BKg38.out hk_ (fun h_ => h_))
 clear F6 F12 F19 F26 F32 F42 F52 F58 BKg1 BKg38
 have F6 := m0_
 have F12 := m1_
 have F19 := m2_
 have F26 := m3_
 have F32 := m4_
 have F42 := m5_
 have F52 := m6_
 have F58 := m7_
 have BKg1 := m8_
 have BKg38 := m9_
 clear m0_ m1_ m2_ m3_ m4_ m5_ m6_ m7_ m8_ m9_
 have m0_ := xm (below_step (w := w) HB.out hb_)
 clear HB
 have HB := m0_
 clear m0_ hb_ hk_
 refine hK.out _ _ ⟨(xc BKg38.out 0).trans rfl, (xc BKg38.out 1).trans rfl, (xc BKg1.out 0).trans rfl, (xc BKg1.out 1).trans rfl⟩ (fun hHeld => nC ?_)
 clear hK K
 refine px 4 5 31 (by kernel_rfl) ?_
 refine done_ (by kernel_rfl) ?_
 clear hcg1_0 hfg1_0 hcg1_1 hfg1_1
 obtain ⟨hcg1_0, hfg1_0, hcg1_1, hfg1_1⟩ := laws_FnExactCheckView.cs2 BKg1.out
 clear hcg38_0 hfg38_0 hcg38_1 hfg38_1
 obtain ⟨hcg38_0, hfg38_0, hcg38_1, hfg38_1⟩ := laws_FnExactCheckView.cs2 BKg38.out
 go_wp2_with (first
  | ((with_reducible refine gate_callee (f := 10) rfl ?_); refine goesL_ (some 48) rfl rfl Try.func10 (by kernel_rfl) rfl #[.agg #[.slice A27 t25_0.length c28, .slice A33 t25_1.length c34], .int .i64 1] rfl mB ?_; refine (laws_markView.calls k P29 (.slice A27 t25_0.length c28) t25_0 P35 (.slice A33 t25_1.length c34) t25_1 1 t66_0 t66_1 t66_2 w _ HB.out F26.out F32.out (fun k_ h_ h2_ => absurd (T31.out k_ h_).1 (by have z_ := T37.out k_ h2_; first | exact z_ | exact z_.1 | exact z_.2 | exact z_.2.1 | exact z_.2.2 | exact z_.2.2.1 | exact z_.2.2.2 | exact z_.2.2.2.1 | exact z_.2.2.2.2 | exact z_.2.2.2.2.1 | exact z_.2.2.2.2.2 | exact z_.2.2.2.2.2.1 | exact z_.2.2.2.2.2.2)) t66A.out).mono ?_; rintro e w13_ ⟨rfl, h0_, h1_, hb_, hkp_⟩; refine ⟨_, rfl, ?_⟩; have Z13 := xm (hkp_.1 : w12_.heap.size ≤ w13_.heap.size); have hk2_ := Kept.mono hkp_ (S' := fun k_ => w4_.heap.size ≤ k_ ∧ k_ < w5_.heap.size) (fun k_ h_ => by rcases h_ with h_ | h_ <;> first | exact B30.out k_ h_ | exact B36.out k_ h_); have yF26 := xm (Kd.R_reok rfl h0_ (fun k_ e_ => F26.out.1 k_ e_)); have yF32 := xm h1_; have m0_ := xm (Kd.R_kept F6.out hk2_ (fun k_ h_ h2_ => by have u1_ := B10.out k_ h_; have u2_ : w4_.heap.size ≤ k_ ∧ k_ < w5_.heap.size := h2_; have := Z4.out; omega)); have m1_ := xm (Kd.S_kept F12.out hk2_ (fun k_ h_ h2_ => by have u1_ := B16.out k_ h_; have u2_ : w4_.heap.size ≤ k_ ∧ k_ < w5_.heap.size := h2_; have := Z4.out; omega)); have m2_ := xm (Kd.R_kept F19.out hk2_ (fun k_ h_ h2_ => by have u1_ := B23.out k_ h_; have u2_ : w4_.heap.size ≤ k_ ∧ k_ < w5_.heap.size := h2_; omega)); have m3_ := xm (Kd.R_kept F42.out hk2_ (fun k_ h_ h2_ => by have u1_ := B46.out k_ h_; have u2_ : w4_.heap.size ≤ k_ ∧ k_ < w5_.heap.size := h2_; have := Z6.out; have := Z7.out; omega)); have m4_ := xm (Kd.R_kept F52.out hk2_ (fun k_ h_ h2_ => by have u1_ := B56.out k_ h_; have u2_ : w4_.heap.size ≤ k_ ∧ k_ < w5_.heap.size := h2_; have := Z6.out; have := Z7.out; have := Z8.out; have := Z9.out; have := Z10.out; omega)); have m5_ := xm (Kd.S_kept F58.out hk2_ (fun k_ h_ h2_ => by have u1_ := B62.out k_ h_; have u2_ : w4_.heap.size ≤ k_ ∧ k_ < w5_.heap.size := h2_; have := Z6.out; have := Z7.out; have := Z8.out; have := Z9.out; have := Z10.out; omega)); have m6_ := xm (blk_kept BKg1.out hk2_ (fun h2_ => by have u1_ := GBg1.out; have u2_ : w4_.heap.size ≤ g1 ∧ g1 < w5_.heap.size := h2_; have := Z2.out; have := Z3.out; have := Z4.out; omega)); have m7_ := xm (blk_kept BKg38.out hk2_ (fun h2_ => by have u1_ := GBg38.out; have u2_ : w4_.heap.size ≤ g38 ∧ g38 < w5_.heap.size := h2_; omega)); clear F6 F12 F19 F42 F52 F58 BKg1 BKg38; have F6 := m0_; have F12 := m1_; have F19 := m2_; have F42 := m3_; have F52 := m4_; have F58 := m5_; have BKg1 := m6_; have BKg38 := m7_; clear m0_ m1_ m2_ m3_ m4_ m5_ m6_ m7_; clear F26 F32; have F26 := yF26; have F32 := yF32; clear yF26 yF32; clear HB; have HB := xm hb_; clear hb_ hkp_ hk2_ h0_ h1_; (try clear LEF26); have LEF26 := xm (Kd.R_reads' F26.out).1; (try clear LEF32); have LEF32 := xm (Kd.S_reads' F32.out).1; clear hcg1_0 hfg1_0 hcg1_1 hfg1_1; obtain ⟨hcg1_0, hfg1_0, hcg1_1, hfg1_1⟩ := laws_FnExactCheckView.cs2 BKg1.out; clear hcg38_0 hfg38_0 hcg38_1 hfg38_1; obtain ⟨hcg38_0, hfg38_0, hcg38_1, hfg38_1⟩ := laws_FnExactCheckView.cs2 BKg38.out)
  | ((with_reducible refine gate_callee (f := 11) rfl ?_); refine goesL_ (some 64) rfl rfl Try.func11 (by kernel_rfl) rfl #[.slice A43 t41_0.length c44, .int .i64 1] rfl mB ?_; refine (laws_markIntS.calls k P45 (.slice A43 t41_0.length c44) t41_0 1 t71_0 t71_1 w _ HB.out F42.out t71A.out).mono ?_; rintro e w15_ ⟨rfl, h0_, hb_, hkp_⟩; refine ⟨_, rfl, ?_⟩; have Z15 := xm (hkp_.1 : w14_.heap.size ≤ w15_.heap.size); have hk2_ := Kept.mono hkp_ (S' := fun k_ => w7_.heap.size ≤ k_ ∧ k_ < w8_.heap.size) (fun k_ h_ => by exact B46.out k_ h_); have yF42 := xm (Kd.R_reok rfl h0_ (fun k_ e_ => F42.out.1 k_ e_)); have m0_ := xm (Kd.R_kept F6.out hk2_ (fun k_ h_ h2_ => by have u1_ := B10.out k_ h_; have u2_ : w7_.heap.size ≤ k_ ∧ k_ < w8_.heap.size := h2_; have := Z4.out; have := Z5.out; have := Z6.out; have := Z7.out; omega)); have m1_ := xm (Kd.S_kept F12.out hk2_ (fun k_ h_ h2_ => by have u1_ := B16.out k_ h_; have u2_ : w7_.heap.size ≤ k_ ∧ k_ < w8_.heap.size := h2_; have := Z4.out; have := Z5.out; have := Z6.out; have := Z7.out; omega)); have m2_ := xm (Kd.R_kept F19.out hk2_ (fun k_ h_ h2_ => by have u1_ := B23.out k_ h_; have u2_ : w7_.heap.size ≤ k_ ∧ k_ < w8_.heap.size := h2_; have := Z5.out; have := Z6.out; have := Z7.out; omega)); have m3_ := xm (Kd.R_kept F26.out hk2_ (fun k_ h_ h2_ => by have u1_ := B30.out k_ h_; have u2_ : w7_.heap.size ≤ k_ ∧ k_ < w8_.heap.size := h2_; have := Z6.out; have := Z7.out; omega)); have m4_ := xm (Kd.S_kept F32.out hk2_ (fun k_ h_ h2_ => by have u1_ := B36.out k_ h_; have u2_ : w7_.heap.size ≤ k_ ∧ k_ < w8_.heap.size := h2_; have := Z6.out; have := Z7.out; omega)); have m5_ := xm (Kd.R_kept F52.out hk2_ (fun k_ h_ h2_ => by have u1_ := B56.out k_ h_; have u2_ : w7_.heap.size ≤ k_ ∧ k_ < w8_.heap.size := h2_; have := Z9.out; have := Z10.out; omega)); have m6_ := xm (Kd.S_kept F58.out hk2_ (fun k_ h_ h2_ => by have u1_ := B62.out k_ h_; have u2_ : w7_.heap.size ≤ k_ ∧ k_ < w8_.heap.size := h2_; have := Z9.out; have := Z10.out; omega)); have m7_ := xm (blk_kept BKg1.out hk2_ (fun h2_ => by have u1_ := GBg1.out; have u2_ : w7_.heap.size ≤ g1 ∧ g1 < w8_.heap.size := h2_; have := Z2.out; have := Z3.out; have := Z4.out; have := Z5.out; have := Z6.out; have := Z7.out; omega)); have m8_ := xm (blk_kept BKg38.out hk2_ (fun h2_ => by have u1_ := GBg38.out; have u2_ : w7_.heap.size ≤ g38 ∧ g38 < w8_.heap.size := h2_; have := Z7.out; omega)); clear F6 F12 F19 F26 F32 F52 F58 BKg1 BKg38; have F6 := m0_; have F12 := m1_; have F19 := m2_; have F26 := m3_; have F32 := m4_; have F52 := m5_; have F58 := m6_; have BKg1 := m7_; have BKg38 := m8_; clear m0_ m1_ m2_ m3_ m4_ m5_ m6_ m7_ m8_; clear F42; have F42 := yF42; clear yF42; clear HB; have HB := xm hb_; clear hb_ hkp_ hk2_ h0_; (try clear LEF42); have LEF42 := xm (Kd.R_reads' F42.out).1; clear hcg1_0 hfg1_0 hcg1_1 hfg1_1; obtain ⟨hcg1_0, hfg1_0, hcg1_1, hfg1_1⟩ := laws_FnExactCheckView.cs2 BKg1.out; clear hcg38_0 hfg38_0 hcg38_1 hfg38_1; obtain ⟨hcg38_0, hfg38_0, hcg38_1, hfg38_1⟩ := laws_FnExactCheckView.cs2 BKg38.out)
  | ((with_reducible refine gate_callee (f := 12) rfl ?_); refine goesL_ (some 67) rfl rfl Try.func12 (by kernel_rfl) rfl #[.slice A43 t41_0.length c44, .int .i64 1] rfl mB ?_; refine calls_of_args (args' := #[.slice A43 t71_1.length c44, .int .i64 1]) (by simp only [LEF42.out]) ?_; refine (laws_heldIntS.calls k _ _ t71_1 1 t72_0 _ (Kd.R_reads' F42.out).2.2 (by have z_ := Kd.R_reads' F42.out; have y_ := z_.1; have x_ := z_.2.1; omega) t72A.out).mono ?_; rintro e w16_ ⟨rfl, hb_⟩; refine ⟨_, rfl, ?_⟩; replace hb_ := hb_.below; have Z16 := xm (hb_.size : w15_.heap.size ≤ w16_.heap.size); have hk_ := Kept.of_below hb_ (fun _ => False); have m0_ := xm (Kd.R_kept F6.out hk_ (fun _ _ h_ => h_)); have m1_ := xm (Kd.S_kept F12.out hk_ (fun _ _ h_ => h_)); have m2_ := xm (Kd.R_kept F19.out hk_ (fun _ _ h_ => h_)); have m3_ := xm (Kd.R_kept F26.out hk_ (fun _ _ h_ => h_)); have m4_ := xm (Kd.S_kept F32.out hk_ (fun _ _ h_ => h_)); have m5_ := xm (Kd.R_kept F42.out hk_ (fun _ _ h_ => h_)); have m6_ := xm (Kd.R_kept F52.out hk_ (fun _ _ h_ => h_)); have m7_ := xm (Kd.S_kept F58.out hk_ (fun _ _ h_ => h_)); have m8_ := xm (blk_kept BKg1.out hk_ (fun h_ => h_)); have m9_ := xm (blk_kept BKg38.out hk_ (fun h_ => h_)); clear F6 F12 F19 F26 F32 F42 F52 F58 BKg1 BKg38; have F6 := m0_; have F12 := m1_; have F19 := m2_; have F26 := m3_; have F32 := m4_; have F42 := m5_; have F52 := m6_; have F58 := m7_; have BKg1 := m8_; have BKg38 := m9_; clear m0_ m1_ m2_ m3_ m4_ m5_ m6_ m7_ m8_ m9_; have m0_ := xm (below_step (w := w) HB.out hb_); clear HB; have HB := m0_; clear m0_ hb_ hk_; clear hcg1_0 hfg1_0 hcg1_1 hfg1_1; obtain ⟨hcg1_0, hfg1_0, hcg1_1, hfg1_1⟩ := laws_FnExactCheckView.cs2 BKg1.out; clear hcg38_0 hfg38_0 hcg38_1 hfg38_1; obtain ⟨hcg38_0, hfg38_0, hcg38_1, hfg38_1⟩ := laws_FnExactCheckView.cs2 BKg38.out)
  | ((with_reducible refine gate_callee (f := 6) rfl ?_); refine goesL_ (some 75) rfl rfl Try.func6 (by kernel_rfl) rfl #[.agg #[.slice A0_0 l0_0.length c0_0, .slice A0_1 l0_1.length c0_1]] rfl mB ?_; refine (laws_toView.calls k _ _ l0_0 _ _ l0_1 t75_0 t75_1 _ (Kd.C_below HR0_0.out HB.out) HC0_0.out (Kd.C_below HR0_1.out HB.out) HC0_1.out t75A.out).mono ?_; rintro e w17_ ⟨v0_, v1_, rfl, h0_, h1_, hb_⟩; refine ⟨_, rfl, ?_⟩; have Z17 := xm (hb_.size : w16_.heap.size ≤ w17_.heap.size); have hk_ := Kept.of_below hb_ (fun _ => False); obtain ⟨A77, c78, rfl⟩ := Kd.R_slice h0_; obtain ⟨A83, c84, rfl⟩ := Kd.S_slice h1_; obtain ⟨P79, p1_, p2_, p3_⟩ := hideT (base := w.heap.size) rfl h0_ (szOf (w := w) HB.out); have F76 := xm p1_; have B80 : Aside0 (∀ k_, P79 k_ → w16_.heap.size ≤ k_ ∧ k_ < w17_.heap.size) := xm p2_; have T81 := xm p3_; clear p1_ p2_ p3_; obtain ⟨P85, p1_, p2_, p3_⟩ := hideS (base := w.heap.size) h1_ (szOf (w := w) HB.out); have F82 := xm p1_; have B86 : Aside0 (∀ k_, P85 k_ → w16_.heap.size ≤ k_ ∧ k_ < w17_.heap.size) := xm p2_; have T87 := xm p3_; clear p1_ p2_ p3_; have m0_ := xm (Kd.R_kept F6.out hk_ (fun _ _ h_ => h_)); have m1_ := xm (Kd.S_kept F12.out hk_ (fun _ _ h_ => h_)); have m2_ := xm (Kd.R_kept F19.out hk_ (fun _ _ h_ => h_)); have m3_ := xm (Kd.R_kept F26.out hk_ (fun _ _ h_ => h_)); have m4_ := xm (Kd.S_kept F32.out hk_ (fun _ _ h_ => h_)); have m5_ := xm (Kd.R_kept F42.out hk_ (fun _ _ h_ => h_)); have m6_ := xm (Kd.R_kept F52.out hk_ (fun _ _ h_ => h_)); have m7_ := xm (Kd.S_kept F58.out hk_ (fun _ _ h_ => h_)); have m8_ := xm (blk_kept BKg1.out hk_ (fun h_ => h_)); have m9_ := xm (blk_kept BKg38.out hk_ (fun h_ => h_)); clear F6 F12 F19 F26 F32 F42 F52 F58 BKg1 BKg38; have F6 := m0_; have F12 := m1_; have F19 := m2_; have F26 := m3_; have F32 := m4_; have F42 := m5_; have F52 := m6_; have F58 := m7_; have BKg1 := m8_; have BKg38 := m9_; clear m0_ m1_ m2_ m3_ m4_ m5_ m6_ m7_ m8_ m9_; have m0_ := xm (below_step (w := w) HB.out hb_); clear HB; have HB := m0_; clear m0_ hb_ hk_ h0_ h1_; clear hcg1_0 hfg1_0 hcg1_1 hfg1_1; obtain ⟨hcg1_0, hfg1_0, hcg1_1, hfg1_1⟩ := laws_FnExactCheckView.cs2 BKg1.out; clear hcg38_0 hfg38_0 hcg38_1 hfg38_1; obtain ⟨hcg38_0, hfg38_0, hcg38_1, hfg38_1⟩ := laws_FnExactCheckView.cs2 BKg38.out)
  | ((with_reducible refine gate_callee (f := 7) rfl ?_); refine goesL_ (some 76) rfl rfl Try.func7 (by kernel_rfl) rfl #[.agg #[.slice A77 t75_0.length c78, .slice A83 t75_1.length c84]] rfl mB ?_; refine (impl_CheckView.calls k _ _ t75_0 _ _ t75_1 t88_0 t88_1 _ (Kd.R_reads' F76.out).2.2 (Kd.R_reads' F76.out).2.1 (Kd.S_reads' F82.out).2.2 (Kd.S_reads' F82.out).2.1 t88A.out).mono ?_; rintro e w18_ ⟨v0_, rfl, h0_, hb_⟩; refine ⟨_, rfl, ?_⟩; have Z18 := xm (hb_.size : w17_.heap.size ≤ w18_.heap.size); have hk_ := Kept.of_below hb_ (fun _ => False); obtain ⟨A90, c91, rfl⟩ := Kd.R_slice h0_; obtain ⟨P92, p1_, p2_, p3_⟩ := hideT (base := w.heap.size) rfl h0_ (szOf (w := w) HB.out); have F89 := xm p1_; have B93 : Aside0 (∀ k_, P92 k_ → w17_.heap.size ≤ k_ ∧ k_ < w18_.heap.size) := xm p2_; have T94 := xm p3_; clear p1_ p2_ p3_; have m0_ := xm (Kd.R_kept F6.out hk_ (fun _ _ h_ => h_)); have m1_ := xm (Kd.S_kept F12.out hk_ (fun _ _ h_ => h_)); have m2_ := xm (Kd.R_kept F19.out hk_ (fun _ _ h_ => h_)); have m3_ := xm (Kd.R_kept F26.out hk_ (fun _ _ h_ => h_)); have m4_ := xm (Kd.S_kept F32.out hk_ (fun _ _ h_ => h_)); have m5_ := xm (Kd.R_kept F42.out hk_ (fun _ _ h_ => h_)); have m6_ := xm (Kd.R_kept F52.out hk_ (fun _ _ h_ => h_)); have m7_ := xm (Kd.S_kept F58.out hk_ (fun _ _ h_ => h_)); have m8_ := xm (Kd.R_kept F76.out hk_ (fun _ _ h_ => h_)); have m9_ := xm (Kd.S_kept F82.out hk_ (fun _ _ h_ => h_)); have m10_ := xm (blk_kept BKg1.out hk_ (fun h_ => h_)); have m11_ := xm (blk_kept BKg38.out hk_ (fun h_ => h_)); clear F6 F12 F19 F26 F32 F42 F52 F58 F76 F82 BKg1 BKg38; have F6 := m0_; have F12 := m1_; have F19 := m2_; have F26 := m3_; have F32 := m4_; have F42 := m5_; have F52 := m6_; have F58 := m7_; have F76 := m8_; have F82 := m9_; have BKg1 := m10_; have BKg38 := m11_; clear m0_ m1_ m2_ m3_ m4_ m5_ m6_ m7_ m8_ m9_ m10_ m11_; have m0_ := xm (below_step (w := w) HB.out hb_); clear HB; have HB := m0_; clear m0_ hb_ hk_ h0_; clear hcg1_0 hfg1_0 hcg1_1 hfg1_1; obtain ⟨hcg1_0, hfg1_0, hcg1_1, hfg1_1⟩ := laws_FnExactCheckView.cs2 BKg1.out; clear hcg38_0 hfg38_0 hcg38_1 hfg38_1; obtain ⟨hcg38_0, hfg38_0, hcg38_1, hfg38_1⟩ := laws_FnExactCheckView.cs2 BKg38.out)
  | ((with_reducible refine gate_callee (f := 8) rfl ?_); refine goesL_ (some 81) rfl rfl Try.func8 (by kernel_rfl) rfl #[.slice A90 t88_0.length c91, .slice A20 t18_0.length c21] rfl mB ?_; refine (laws_eqIntS.calls k _ _ t88_0 _ _ t18_0 true _ (Kd.R_reads' F89.out).2.2 (Kd.R_reads' F89.out).2.1 (Kd.R_reads' F19.out).2.2 (Kd.R_reads' F19.out).2.1 t95A.out).mono ?_; rintro e w19_ ⟨rfl, hb_⟩; refine ⟨_, rfl, ?_⟩; replace hb_ := hb_.below; have Z19 := xm (hb_.size : w18_.heap.size ≤ w19_.heap.size); have hk_ := Kept.of_below hb_ (fun _ => False); have m0_ := xm (Kd.R_kept F6.out hk_ (fun _ _ h_ => h_)); have m1_ := xm (Kd.S_kept F12.out hk_ (fun _ _ h_ => h_)); have m2_ := xm (Kd.R_kept F19.out hk_ (fun _ _ h_ => h_)); have m3_ := xm (Kd.R_kept F26.out hk_ (fun _ _ h_ => h_)); have m4_ := xm (Kd.S_kept F32.out hk_ (fun _ _ h_ => h_)); have m5_ := xm (Kd.R_kept F42.out hk_ (fun _ _ h_ => h_)); have m6_ := xm (Kd.R_kept F52.out hk_ (fun _ _ h_ => h_)); have m7_ := xm (Kd.S_kept F58.out hk_ (fun _ _ h_ => h_)); have m8_ := xm (Kd.R_kept F76.out hk_ (fun _ _ h_ => h_)); have m9_ := xm (Kd.S_kept F82.out hk_ (fun _ _ h_ => h_)); have m10_ := xm (Kd.R_kept F89.out hk_ (fun _ _ h_ => h_)); have m11_ := xm (blk_kept BKg1.out hk_ (fun h_ => h_)); have m12_ := xm (blk_kept BKg38.out hk_ (fun h_ => h_)); clear F6 F12 F19 F26 F32 F42 F52 F58 F76 F82 F89 BKg1 BKg38; have F6 := m0_; have F12 := m1_; have F19 := m2_; have F26 := m3_; have F32 := m4_; have F42 := m5_; have F52 := m6_; have F58 := m7_; have F76 := m8_; have F82 := m9_; have F89 := m10_; have BKg1 := m11_; have BKg38 := m12_; clear m0_ m1_ m2_ m3_ m4_ m5_ m6_ m7_ m8_ m9_ m10_ m11_ m12_; have m0_ := xm (below_step (w := w) HB.out hb_); clear HB; have HB := m0_; clear m0_ hb_ hk_; clear hcg1_0 hfg1_0 hcg1_1 hfg1_1; obtain ⟨hcg1_0, hfg1_0, hcg1_1, hfg1_1⟩ := laws_FnExactCheckView.cs2 BKg1.out; clear hcg38_0 hfg38_0 hcg38_1 hfg38_1; obtain ⟨hcg38_0, hfg38_0, hcg38_1, hfg38_1⟩ := laws_FnExactCheckView.cs2 BKg38.out)
  | ((with_reducible refine gate_callee (f := 12) rfl ?_); refine goesL_ (some 90) rfl rfl Try.func12 (by kernel_rfl) rfl #[.slice A43 t41_0.length c44, .int .i64 1] rfl mB ?_; refine calls_of_args (args' := #[.slice A43 t71_1.length c44, .int .i64 1]) (by simp only [LEF42.out]) ?_; refine (laws_heldIntS.calls k _ _ t71_1 1 t98_0 _ (Kd.R_reads' F42.out).2.2 (by have z_ := Kd.R_reads' F42.out; have y_ := z_.1; have x_ := z_.2.1; omega) t98A.out).mono ?_; rintro e w20_ ⟨rfl, hb_⟩; refine ⟨_, rfl, ?_⟩; replace hb_ := hb_.below; have Z20 := xm (hb_.size : w19_.heap.size ≤ w20_.heap.size); have hk_ := Kept.of_below hb_ (fun _ => False); have m0_ := xm (Kd.R_kept F6.out hk_ (fun _ _ h_ => h_)); have m1_ := xm (Kd.S_kept F12.out hk_ (fun _ _ h_ => h_)); have m2_ := xm (Kd.R_kept F19.out hk_ (fun _ _ h_ => h_)); have m3_ := xm (Kd.R_kept F26.out hk_ (fun _ _ h_ => h_)); have m4_ := xm (Kd.S_kept F32.out hk_ (fun _ _ h_ => h_)); have m5_ := xm (Kd.R_kept F42.out hk_ (fun _ _ h_ => h_)); have m6_ := xm (Kd.R_kept F52.out hk_ (fun _ _ h_ => h_)); have m7_ := xm (Kd.S_kept F58.out hk_ (fun _ _ h_ => h_)); have m8_ := xm (Kd.R_kept F76.out hk_ (fun _ _ h_ => h_)); have m9_ := xm (Kd.S_kept F82.out hk_ (fun _ _ h_ => h_)); have m10_ := xm (Kd.R_kept F89.out hk_ (fun _ _ h_ => h_)); have m11_ := xm (blk_kept BKg1.out hk_ (fun h_ => h_)); have m12_ := xm (blk_kept BKg38.out hk_ (fun h_ => h_)); clear F6 F12 F19 F26 F32 F42 F52 F58 F76 F82 F89 BKg1 BKg38; have F6 := m0_; have F12 := m1_; have F19 := m2_; have F26 := m3_; have F32 := m4_; have F42 := m5_; have F52 := m6_; have F58 := m7_; have F76 := m8_; have F82 := m9_; have F89 := m10_; have BKg1 := m11_; have BKg38 := m12_; clear m0_ m1_ m2_ m3_ m4_ m5_ m6_ m7_ m8_ m9_ m10_ m11_ m12_; have m0_ := xm (below_step (w := w) HB.out hb_); clear HB; have HB := m0_; clear m0_ hb_ hk_; clear hcg1_0 hfg1_0 hcg1_1 hfg1_1; obtain ⟨hcg1_0, hfg1_0, hcg1_1, hfg1_1⟩ := laws_FnExactCheckView.cs2 BKg1.out; clear hcg38_0 hfg38_0 hcg38_1 hfg38_1; obtain ⟨hcg38_0, hfg38_0, hcg38_1, hfg38_1⟩ := laws_FnExactCheckView.cs2 BKg38.out)
  | (go_at_call 8; refine (laws_eqIntS.calls k _ _ t41_0 _ _ t18_0 true _ (Kd.R_reads' F42.out).2.2 (Kd.R_reads' F42.out).2.1 (Kd.R_reads' F19.out).2.2 (Kd.R_reads' F19.out).2.1 t68A.out).mono ?_; rintro e w14_ ⟨rfl, hb_⟩; replace hb_ := hb_.below; have Z14 := xm (hb_.size : w13_.heap.size ≤ w14_.heap.size); have hk_ := Kept.of_below hb_ (fun _ => False); have m0_ := xm (Kd.R_kept F6.out hk_ (fun _ _ h_ => h_)); have m1_ := xm (Kd.S_kept F12.out hk_ (fun _ _ h_ => h_)); have m2_ := xm (Kd.R_kept F19.out hk_ (fun _ _ h_ => h_)); have m3_ := xm (Kd.R_kept F26.out hk_ (fun _ _ h_ => h_)); have m4_ := xm (Kd.S_kept F32.out hk_ (fun _ _ h_ => h_)); have m5_ := xm (Kd.R_kept F42.out hk_ (fun _ _ h_ => h_)); have m6_ := xm (Kd.R_kept F52.out hk_ (fun _ _ h_ => h_)); have m7_ := xm (Kd.S_kept F58.out hk_ (fun _ _ h_ => h_)); have m8_ := xm (blk_kept BKg1.out hk_ (fun h_ => h_)); have m9_ := xm (blk_kept BKg38.out hk_ (fun h_ => h_)); clear F6 F12 F19 F26 F32 F42 F52 F58 BKg1 BKg38; have F6 := m0_; have F12 := m1_; have F19 := m2_; have F26 := m3_; have F32 := m4_; have F42 := m5_; have F52 := m6_; have F58 := m7_; have BKg1 := m8_; have BKg38 := m9_; clear m0_ m1_ m2_ m3_ m4_ m5_ m6_ m7_ m8_ m9_; have m0_ := xm (below_step (w := w) HB.out hb_); clear HB; have HB := m0_; clear m0_ hb_ hk_; clear hcg1_0 hfg1_0 hcg1_1 hfg1_1; obtain ⟨hcg1_0, hfg1_0, hcg1_1, hfg1_1⟩ := laws_FnExactCheckView.cs2 BKg1.out; clear hcg38_0 hfg38_0 hcg38_1 hfg38_1; obtain ⟨hcg38_0, hfg38_0, hcg38_1, hfg38_1⟩ := laws_FnExactCheckView.cs2 BKg38.out))
 go_wp2
 go_ret
 exact ⟨eB, HB.out⟩

/-- THE ONE PURE STATEMENT of laws_FnExactCheckView. -/
def laws_FnExactCheckView.Pure : Prop := ∀ x0 : S25, wf25 x0 → ∃ k, laws_FnExactCheckView.f k x0.f0 x0.f1 = some true

end Go.Proofs.Ytaddemalepndfae.G
