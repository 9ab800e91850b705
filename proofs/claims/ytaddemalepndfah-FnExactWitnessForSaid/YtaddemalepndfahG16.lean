/- Written by a program of this claim's own, out of the translation: functions of the program as plain functions, and that the calls answer as these. No conditions. -/
import Derived.Test.YtaddemalepndfahG0
import Derived.Test.YtaddemalepndfahG1
import Derived.Test.YtaddemalepndfahG7
import Derived.Test.YtaddemalepndfahG8
import Derived.Test.YtaddemalepndfahG12
import Derived.Test.YtaddemalepndfahG14
import Derived.Test.YtaddemalepndfahG15
namespace Go.Proofs.Ytaddemalepndfah.G
open Go.RowKit Go.Proofs.Ytaddemalepndfah.X Go.Proofs.YtaddemalepndfahW.PrintWords Go.Proofs.YtaddemalepndfahW.PrintLast Go.Proofs.YtaddemalepndfahW.PrintMore
attribute [local go_sem] max2_int min2_int max_two min_two max_three min_three max_four min_four   -- for this text's walks alone
set_option linter.unusedVariables false
set_option linter.unusedSimpArgs false

/-! ### laws_FnExactWitnessFor: function 3 -/
def laws_FnExactWitnessFor.f (k : Nat) (l0 : List (S25)) (a1 : Int) (l2_0 : List Int) (l2_1 : List Int) : Option (Bool) := (laws_szDependS.f k l0 1048576).bind fun t3b => (if t3b < 0 then (some true) else ((laws_szDepend.f l2_0 l2_1 t3b).bind fun t5b => (if t5b < 0 then (some true) else ((laws_toDependS.f k l0).bind fun t7b => ((laws_toDepend.f k l2_0 l2_1).bind fun t14b => ((spec_WitnessFor.f k t7b a1 t14b.1 t14b.2).bind fun t27b => ((laws_toDependS.f k l0).bind fun t38b => ((laws_toDepend.f k l2_0 l2_1).bind fun t45b => ((impl_WitnessFor.f k t38b a1 t45b.1 t45b.2).bind fun t61b => ((laws_eqTable.f k t61b.1 t61b.2.1 t27b.1 t27b.2.1).bind fun t71b => (if t71b = true then (if (t61b.2.2 != t27b.2.2) = true then (some false) else ((laws_toDependS.f k l0).bind fun t74b => ((laws_eqDependS.f k t38b t74b).bind fun t81b => (if t81b = true then ((laws_toDepend.f k l2_0 l2_1).bind fun t83b => ((laws_eqDepend.f k t45b.1 t45b.2 t83b.1 t83b.2).bind fun t96b => (if t96b = true then ((laws_markDependS.f k t38b 1).bind fun t98b => ((laws_markDepend.f k t45b.1 t45b.2 t98b.1).bind fun t99b => (if t99b.1 < 0 then (some false) else ((laws_eqTable.f k t61b.1 t61b.2.1 t27b.1 t27b.2.1).bind fun t101b => (if t101b = true then (if (t61b.2.2 != t27b.2.2) = true then (some false) else ((laws_markTable.f k t61b.1 t61b.2.1 1).bind fun t104b => ((laws_heldTable.f k t61b.1 t104b.2 1).bind fun t105b => (if t105b < 0 then (some false) else (if t105b = t104b.1 then ((laws_toDependS.f k l0).bind fun t108b => ((laws_toDepend.f k l2_0 l2_1).bind fun t115b => ((impl_WitnessFor.f k t108b a1 t115b.1 t115b.2).bind fun t128b => ((laws_eqTable.f k t128b.1 t128b.2.1 t27b.1 t27b.2.1).bind fun t139b => (if t139b = true then (if (t128b.2.2 != t27b.2.2) = true then (some false) else ((laws_heldTable.f k t61b.1 t104b.2 1).bind fun t142b => (if t142b < 0 then (some false) else (if t142b = t104b.1 then ((some true)) else (some false))))) else (some false)))))) else (some false)))))) else (some false)))))) else (some false)))) else (some false))))) else (some false))))))))))))
theorem laws_FnExactWitnessFor.mono : ∀ a0_ a1_ a2_ a3_ k, LeO (laws_FnExactWitnessFor.f k a0_ a1_ a2_ a3_) (laws_FnExactWitnessFor.f (k + 1) a0_ a1_ a2_ a3_) := by
 intro a0_ a1_ a2_ a3_ k
 unfold laws_FnExactWitnessFor.f
 repeat' first
  | (with_reducible exact impl_WitnessFor.mono _ _ _ _ _)
  | (with_reducible exact laws_eqDepend.mono _ _ _ _ _)
  | (with_reducible exact laws_eqDependS.mono _ _ _)
  | (with_reducible exact laws_eqTable.mono _ _ _ _ _)
  | (with_reducible exact laws_heldTable.mono _ _ _ _)
  | (with_reducible exact laws_markDepend.mono _ _ _ _)
  | (with_reducible exact laws_markDependS.mono _ _ _)
  | (with_reducible exact laws_markTable.mono _ _ _ _)
  | (with_reducible exact laws_szDependS.mono _ _ _)
  | (with_reducible exact laws_toDepend.mono _ _ _)
  | (with_reducible exact laws_toDependS.mono _ _)
  | (with_reducible exact spec_WitnessFor.mono _ _ _ _ _)
  | (with_reducible exact LeO.refl _)
  | (with_reducible exact LeO.none _)
  | (with_reducible refine LeO.ite ?_ ?_)
  | (with_reducible refine LeO.bind ?_ (fun _ => ?_))
  | exact impl_WitnessFor.mono _ _ _ _ _
  | exact laws_eqDepend.mono _ _ _ _ _
  | exact laws_eqDependS.mono _ _ _
  | exact laws_eqTable.mono _ _ _ _ _
  | exact laws_heldTable.mono _ _ _ _
  | exact laws_markDepend.mono _ _ _ _
  | exact laws_markDependS.mono _ _ _
  | exact laws_markTable.mono _ _ _ _
  | exact laws_szDependS.mono _ _ _
  | exact laws_toDepend.mono _ _ _
  | exact laws_toDependS.mono _ _
  | exact spec_WitnessFor.mono _ _ _ _ _
theorem laws_FnExactWitnessFor.cs2 {w : World} {g t : Nat} {a0 a1 : Value} (h : w.heap[g]? = some (.cells #[a0, a1] t (0, 0))) : w.cell? ⟨g, 0, none⟩ = some a0 ∧ w.frozen? ⟨g, 0, none⟩ = false ∧ w.cell? ⟨g, 1, none⟩ = some a1 ∧ w.frozen? ⟨g, 1, none⟩ = false := ⟨(xc h 0).trans rfl, xf h 0, (xc h 1).trans rfl, xf h 1⟩
set_option maxHeartbeats 8000000 in
set_option maxRecDepth 100000 in
theorem laws_FnExactWitnessFor.calls (k : Nat) (A0 : Option Addr) (c0 : Nat) (l0 : List (S25)) (a1 : Int) (A2_0 : Option Addr) (c2_0 : Nat) (l2_0 : List Int) (A2_1 : Option Addr) (c2_1 : Nat) (l2_1 : List Int) (w : World) (hr0 : Kd.C k25 w A0 l0.length l0) (hc0 : l0.length ≤ c0) (hr2_0 : Kd.C (Kd.int .i64) w A2_0 l2_0.length l2_0) (hc2_0 : l2_0.length ≤ c2_0) (hr2_1 : Kd.C (Kd.int .i64) w A2_1 l2_1.length l2_1) (hc2_1 : l2_1.length ≤ c2_1) (h : laws_FnExactWitnessFor.f k l0 a1 l2_0 l2_1 = some true) :
  Calls Try.prog 3 #[.slice A0 l0.length c0, .int .i64 a1, .agg #[.slice A2_0 l2_0.length c2_0, .slice A2_1 l2_1.length c2_1]] w fun e w' => e = .returned (.bool true) ∧ Below w.heap.size w w' := by
 have hu25 := Try.underlying25
 have hu30 := Try.underlying30
 have hu35 := Try.underlying35
 have HR0 := xm hr0
 have HC0 := xm hc0
 clear hr0 hc0
 have HR2_0 := xm hr2_0
 have HC2_0 := xm hc2_0
 clear hr2_0 hc2_0
 have HR2_1 := xm hr2_1
 have HC2_1 := xm hc2_1
 clear hr2_1 hc2_1
 have HB := xm (Below.refl w.heap.size w)
 unfold laws_FnExactWitnessFor.f at h
 replace h := Option.bind_eq_some_iff.mp h
 obtain ⟨t3_0, t3A0, h⟩ := h
 (try dsimp only at h)
 have t3A := xm t3A0
 clear t3A0
 by_cases c4 : t3_0 < 0
 ·have c4b := decide_eq_true c4
  clear c4
  clear h
  go_enter Try.func3, Try.ntmps3
  go_wp2_with (first
   | ((with_reducible refine gate_dst (N := 5) rfl ?_); refine box_event ?hgq2 (N := 5) ?hdq2 (cs := #[.slice A2_0 l2_0.length c2_0, .slice A2_1 l2_1.length c2_1]) (t := 25) ?hrq2 ?_; (case hdq2 => rfl); (case hgq2 => rfl); (case hrq2 => exact zB); intro g1 hg_ w1_ hbox_ hb_; have Z1 := xm (hb_.size : w.heap.size ≤ w1_.heap.size); have hk_ := Kept.of_below hb_ (fun _ => False); have m0_ := xm (below_step (w := w) HB.out hb_); clear HB; have HB := m0_; have BKg1 := xm hbox_; have GBg1 : Aside0 (w.heap.size ≤ g1 ∧ g1 < w1_.heap.size) := xm ⟨by rw [hg_]; exact Nat.le_refl _, blk_lt hbox_⟩; clear m0_ hb_ hbox_ hg_ hk_; obtain ⟨hcg1_0, hfg1_0, hcg1_1, hfg1_1⟩ := laws_FnExactWitnessFor.cs2 BKg1.out)
   | ((with_reducible refine gate_callee (f := 4) rfl ?_); refine goesL_ (some 21) rfl rfl Try.func4 (by kernel_rfl) rfl #[.slice A0 l0.length c0, .int .i64 1048576] rfl mB ?_; refine (laws_szDependS.calls k _ _ l0 1048576 t3_0 _ (Kd.C_below HR0.out HB.out) HC0.out t3A.out).mono ?_; rintro e w2_ ⟨rfl, hb_⟩; refine ⟨_, rfl, ?_⟩; have Z2 := xm (hb_.size : w1_.heap.size ≤ w2_.heap.size); have hk_ := Kept.of_below hb_ (fun _ => False); have m0_ := xm (blk_kept BKg1.out hk_ (fun h_ => h_)); clear BKg1; have BKg1 := m0_; clear m0_; have m0_ := xm (below_step (w := w) HB.out hb_); clear HB; have HB := m0_; clear m0_ hb_ hk_; clear hcg1_0 hfg1_0 hcg1_1 hfg1_1; obtain ⟨hcg1_0, hfg1_0, hcg1_1, hfg1_1⟩ := laws_FnExactWitnessFor.cs2 BKg1.out))
  go_wp2
  go_ret
  exact ⟨eB, HB.out⟩
 rw [if_neg c4] at h
 have c4b := decide_eq_false c4
 clear c4
 replace h := Option.bind_eq_some_iff.mp h
 obtain ⟨t5_0, t5A0, h⟩ := h
 (try dsimp only at h)
 have t5A := xm t5A0
 clear t5A0
 by_cases c6 : t5_0 < 0
 ·have c6b := decide_eq_true c6
  clear c6
  clear h
  go_enter Try.func3, Try.ntmps3
  go_wp2_with (first
   | ((with_reducible refine gate_dst (N := 5) rfl ?_); refine box_event ?hgq2 (N := 5) ?hdq2 (cs := #[.slice A2_0 l2_0.length c2_0, .slice A2_1 l2_1.length c2_1]) (t := 25) ?hrq2 ?_; (case hdq2 => rfl); (case hgq2 => rfl); (case hrq2 => exact zB); intro g1 hg_ w1_ hbox_ hb_; have Z1 := xm (hb_.size : w.heap.size ≤ w1_.heap.size); have hk_ := Kept.of_below hb_ (fun _ => False); have m0_ := xm (below_step (w := w) HB.out hb_); clear HB; have HB := m0_; have BKg1 := xm hbox_; have GBg1 : Aside0 (w.heap.size ≤ g1 ∧ g1 < w1_.heap.size) := xm ⟨by rw [hg_]; exact Nat.le_refl _, blk_lt hbox_⟩; clear m0_ hb_ hbox_ hg_ hk_; obtain ⟨hcg1_0, hfg1_0, hcg1_1, hfg1_1⟩ := laws_FnExactWitnessFor.cs2 BKg1.out)
   | ((with_reducible refine gate_callee (f := 4) rfl ?_); refine goesL_ (some 21) rfl rfl Try.func4 (by kernel_rfl) rfl #[.slice A0 l0.length c0, .int .i64 1048576] rfl mB ?_; refine (laws_szDependS.calls k _ _ l0 1048576 t3_0 _ (Kd.C_below HR0.out HB.out) HC0.out t3A.out).mono ?_; rintro e w2_ ⟨rfl, hb_⟩; refine ⟨_, rfl, ?_⟩; have Z2 := xm (hb_.size : w1_.heap.size ≤ w2_.heap.size); have hk_ := Kept.of_below hb_ (fun _ => False); have m0_ := xm (blk_kept BKg1.out hk_ (fun h_ => h_)); clear BKg1; have BKg1 := m0_; clear m0_; have m0_ := xm (below_step (w := w) HB.out hb_); clear HB; have HB := m0_; clear m0_ hb_ hk_; clear hcg1_0 hfg1_0 hcg1_1 hfg1_1; obtain ⟨hcg1_0, hfg1_0, hcg1_1, hfg1_1⟩ := laws_FnExactWitnessFor.cs2 BKg1.out)
   | ((with_reducible refine gate_callee (f := 5) rfl ?_); refine goesL_ (some 26) rfl rfl Try.func5 (by kernel_rfl) rfl #[.agg #[.slice A2_0 l2_0.length c2_0, .slice A2_1 l2_1.length c2_1], .int .i64 t3_0] rfl mB ?_; refine (laws_szDepend.calls _ _ l2_0 _ _ l2_1 t3_0 t5_0 _ (Kd.C_below HR2_0.out HB.out) HC2_0.out (Kd.C_below HR2_1.out HB.out) HC2_1.out t5A.out).mono ?_; rintro e w3_ ⟨rfl, hb_⟩; refine ⟨_, rfl, ?_⟩; have Z3 := xm (hb_.size : w2_.heap.size ≤ w3_.heap.size); have hk_ := Kept.of_below hb_ (fun _ => False); have m0_ := xm (blk_kept BKg1.out hk_ (fun h_ => h_)); clear BKg1; have BKg1 := m0_; clear m0_; have m0_ := xm (below_step (w := w) HB.out hb_); clear HB; have HB := m0_; clear m0_ hb_ hk_; clear hcg1_0 hfg1_0 hcg1_1 hfg1_1; obtain ⟨hcg1_0, hfg1_0, hcg1_1, hfg1_1⟩ := laws_FnExactWitnessFor.cs2 BKg1.out))
  go_wp2
  go_ret
  exact ⟨eB, HB.out⟩
 rw [if_neg c6] at h
 have c6b := decide_eq_false c6
 clear c6
 replace h := Option.bind_eq_some_iff.mp h
 obtain ⟨t7_0, t7A0, h⟩ := h
 (try dsimp only at h)
 have t7A := xm t7A0
 clear t7A0
 replace h := Option.bind_eq_some_iff.mp h
 obtain ⟨⟨t14_0, t14_1⟩, t14A0, h⟩ := h
 (try dsimp only at h)
 have t14A := xm t14A0
 clear t14A0
 replace h := Option.bind_eq_some_iff.mp h
 obtain ⟨⟨t27_0, t27_1, t27_2⟩, t27A0, h⟩ := h
 (try dsimp only at h)
 have t27A := xm t27A0
 clear t27A0
 replace h := Option.bind_eq_some_iff.mp h
 obtain ⟨t38_0, t38A0, h⟩ := h
 (try dsimp only at h)
 have t38A := xm t38A0
 clear t38A0
 replace h := Option.bind_eq_some_iff.mp h
 obtain ⟨⟨t45_0, t45_1⟩, t45A0, h⟩ := h
 (try dsimp only at h)
 have t45A := xm t45A0
 clear t45A0
 replace h := Option.bind_eq_some_iff.mp h
 obtain ⟨⟨t61_0, t61_1, t61_2⟩, t61A0, h⟩ := h
 (try dsimp only at h)
 have t61A := xm t61A0
 clear t61A0
 replace h := Option.bind_eq_some_iff.mp h
 obtain ⟨t71_0, t71A0, h⟩ := h
 (try dsimp only at h)
 have t71A := xm t71A0
 clear t71A0
 replace h := law_t h
 obtain ⟨c72, h⟩ := h
 subst c72
 replace h := law_f h
 obtain ⟨c73, h⟩ := h
 have c73b0 : (t61_2 != t27_2) = false := by simpa using c73
 have c73b1 : decide (t61_2 = t27_2) = true := by simpa using c73
 have c73b2 : (t61_2 == t27_2) = true := by simpa using c73
 clear c73
 replace h := Option.bind_eq_some_iff.mp h
 obtain ⟨t74_0, t74A0, h⟩ := h
 (try dsimp only at h)
 have t74A := xm t74A0
 clear t74A0
 replace h := Option.bind_eq_some_iff.mp h
 obtain ⟨t81_0, t81A0, h⟩ := h
 (try dsimp only at h)
 have t81A := xm t81A0
 clear t81A0
 replace h := law_t h
 obtain ⟨c82, h⟩ := h
 subst c82
 replace h := Option.bind_eq_some_iff.mp h
 obtain ⟨⟨t83_0, t83_1⟩, t83A0, h⟩ := h
 (try dsimp only at h)
 have t83A := xm t83A0
 clear t83A0
 replace h := Option.bind_eq_some_iff.mp h
 obtain ⟨t96_0, t96A0, h⟩ := h
 (try dsimp only at h)
 have t96A := xm t96A0
 clear t96A0
 replace h := law_t h
 obtain ⟨c97, h⟩ := h
 subst c97
 replace h := Option.bind_eq_some_iff.mp h
 obtain ⟨⟨t98_0, t98_1⟩, t98A0, h⟩ := h
 (try dsimp only at h)
 have t98A := xm t98A0
 clear t98A0
 replace h := Option.bind_eq_some_iff.mp h
 obtain ⟨⟨t99_0, t99_1, t99_2⟩, t99A0, h⟩ := h
 (try dsimp only at h)
 have t99A := xm t99A0
 clear t99A0
 replace h := law_f h
 obtain ⟨c100, h⟩ := h
 have c100b := decide_eq_false c100
 clear c100
 replace h := Option.bind_eq_some_iff.mp h
 obtain ⟨t101_0, t101A0, h⟩ := h
 (try dsimp only at h)
 have t101A := xm t101A0
 clear t101A0
 replace h := law_t h
 obtain ⟨c102, h⟩ := h
 subst c102
 replace h := law_f h
 obtain ⟨c103, h⟩ := h
 have c103b0 : (t61_2 != t27_2) = false := by simpa using c103
 have c103b1 : decide (t61_2 = t27_2) = true := by simpa using c103
 have c103b2 : (t61_2 == t27_2) = true := by simpa using c103
 clear c103
 replace h := Option.bind_eq_some_iff.mp h
 obtain ⟨⟨t104_0, t104_1⟩, t104A0, h⟩ := h
 (try dsimp only at h)
 have t104A := xm t104A0
 clear t104A0
 replace h := Option.bind_eq_some_iff.mp h
 obtain ⟨t105_0, t105A0, h⟩ := h
 (try dsimp only at h)
 have t105A := xm t105A0
 clear t105A0
 replace h := law_f h
 obtain ⟨c106, h⟩ := h
 have c106b := decide_eq_false c106
 clear c106
 replace h := law_t h
 obtain ⟨c107, h⟩ := h
 have c107b0 : (t105_0 == t104_0) = true := beq_iff_eq.mpr c107
 have c107b1 : (t105_0 != t104_0) = false := bne_eq_false_iff_eq.mpr c107
 have c107b2 : decide (t105_0 = t104_0) = true := decide_eq_true c107
 clear c107
 replace h := Option.bind_eq_some_iff.mp h
 obtain ⟨t108_0, t108A0, h⟩ := h
 (try dsimp only at h)
 have t108A := xm t108A0
 clear t108A0
 replace h := Option.bind_eq_some_iff.mp h
 obtain ⟨⟨t115_0, t115_1⟩, t115A0, h⟩ := h
 (try dsimp only at h)
 have t115A := xm t115A0
 clear t115A0
 replace h := Option.bind_eq_some_iff.mp h
 obtain ⟨⟨t128_0, t128_1, t128_2⟩, t128A0, h⟩ := h
 (try dsimp only at h)
 have t128A := xm t128A0
 clear t128A0
 replace h := Option.bind_eq_some_iff.mp h
 obtain ⟨t139_0, t139A0, h⟩ := h
 (try dsimp only at h)
 have t139A := xm t139A0
 clear t139A0
 replace h := law_t h
 obtain ⟨c140, h⟩ := h
 subst c140
 replace h := law_f h
 obtain ⟨c141, h⟩ := h
 have c141b0 : (t128_2 != t27_2) = false := by simpa using c141
 have c141b1 : decide (t128_2 = t27_2) = true := by simpa using c141
 have c141b2 : (t128_2 == t27_2) = true := by simpa using c141
 clear c141
 replace h := Option.bind_eq_some_iff.mp h
 obtain ⟨t142_0, t142A0, h⟩ := h
 (try dsimp only at h)
 have t142A := xm t142A0
 clear t142A0
 replace h := law_f h
 obtain ⟨c143, h⟩ := h
 have c143b := decide_eq_false c143
 clear c143
 replace h := law_t h
 obtain ⟨c144, h⟩ := h
 have c144b0 : (t142_0 == t104_0) = true := beq_iff_eq.mpr c144
 have c144b1 : (t142_0 != t104_0) = false := bne_eq_false_iff_eq.mpr c144
 have c144b2 : decide (t142_0 = t104_0) = true := decide_eq_true c144
 clear c144
 clear h
 go_enter Try.func3, Try.ntmps3
 go_wp2_with (first
  | ((with_reducible refine gate_dst (N := 5) rfl ?_); refine box_event ?hgq2 (N := 5) ?hdq2 (cs := #[.slice A2_0 l2_0.length c2_0, .slice A2_1 l2_1.length c2_1]) (t := 25) ?hrq2 ?_; (case hdq2 => rfl); (case hgq2 => rfl); (case hrq2 => exact zB); intro g1 hg_ w1_ hbox_ hb_; have Z1 := xm (hb_.size : w.heap.size ≤ w1_.heap.size); have hk_ := Kept.of_below hb_ (fun _ => False); have m0_ := xm (below_step (w := w) HB.out hb_); clear HB; have HB := m0_; have BKg1 := xm hbox_; have GBg1 : Aside0 (w.heap.size ≤ g1 ∧ g1 < w1_.heap.size) := xm ⟨by rw [hg_]; exact Nat.le_refl _, blk_lt hbox_⟩; clear m0_ hb_ hbox_ hg_ hk_; obtain ⟨hcg1_0, hfg1_0, hcg1_1, hfg1_1⟩ := laws_FnExactWitnessFor.cs2 BKg1.out)
  | ((with_reducible refine gate_callee (f := 4) rfl ?_); refine goesL_ (some 21) rfl rfl Try.func4 (by kernel_rfl) rfl #[.slice A0 l0.length c0, .int .i64 1048576] rfl mB ?_; refine (laws_szDependS.calls k _ _ l0 1048576 t3_0 _ (Kd.C_below HR0.out HB.out) HC0.out t3A.out).mono ?_; rintro e w2_ ⟨rfl, hb_⟩; refine ⟨_, rfl, ?_⟩; have Z2 := xm (hb_.size : w1_.heap.size ≤ w2_.heap.size); have hk_ := Kept.of_below hb_ (fun _ => False); have m0_ := xm (blk_kept BKg1.out hk_ (fun h_ => h_)); clear BKg1; have BKg1 := m0_; clear m0_; have m0_ := xm (below_step (w := w) HB.out hb_); clear HB; have HB := m0_; clear m0_ hb_ hk_; clear hcg1_0 hfg1_0 hcg1_1 hfg1_1; obtain ⟨hcg1_0, hfg1_0, hcg1_1, hfg1_1⟩ := laws_FnExactWitnessFor.cs2 BKg1.out)
  | ((with_reducible refine gate_callee (f := 5) rfl ?_); refine goesL_ (some 26) rfl rfl Try.func5 (by kernel_rfl) rfl #[.agg #[.slice A2_0 l2_0.length c2_0, .slice A2_1 l2_1.length c2_1], .int .i64 t3_0] rfl mB ?_; refine (laws_szDepend.calls _ _ l2_0 _ _ l2_1 t3_0 t5_0 _ (Kd.C_below HR2_0.out HB.out) HC2_0.out (Kd.C_below HR2_1.out HB.out) HC2_1.out t5A.out).mono ?_; rintro e w3_ ⟨rfl, hb_⟩; refine ⟨_, rfl, ?_⟩; have Z3 := xm (hb_.size : w2_.heap.size ≤ w3_.heap.size); have hk_ := Kept.of_below hb_ (fun _ => False); have m0_ := xm (blk_kept BKg1.out hk_ (fun h_ => h_)); clear BKg1; have BKg1 := m0_; clear m0_; have m0_ := xm (below_step (w := w) HB.out hb_); clear HB; have HB := m0_; clear m0_ hb_ hk_; clear hcg1_0 hfg1_0 hcg1_1 hfg1_1; obtain ⟨hcg1_0, hfg1_0, hcg1_1, hfg1_1⟩ := laws_FnExactWitnessFor.cs2 BKg1.out))
 have hk_ := Kept.drew (Kept.refl w3_ (fun _ => False))
 have m0_ := xm (blk_kept BKg1.out hk_ (fun h_ => h_))
 clear BKg1
 have BKg1 := m0_
 clear m0_
 have m0_ := xm (xd HB.out)
 clear HB hk_
 have HB := m0_
 clear m0_
 have Z4 : Aside0 (w3_.heap.size ≤ w3_.drew.heap.size) := xm (Nat.le_refl _)
 refine start_ (n := 12) (S := fun w' => w'.cell? ⟨g1, 0, none⟩ = some (.slice A2_0 l2_0.length c2_0) ∧ w'.cell? ⟨g1, 1, none⟩ = some (.slice A2_1 l2_1.length c2_1)) (ds := []) #[Z,Z,Z,Z,Z,Z,Z,Z,Z,Z,Z,Z] (by kernel_rfl) rfl rfl ⟨((xc BKg1.out 0).trans rfl), ((xc BKg1.out 1).trans rfl)⟩ (fun hHeld => ?_)
 generalize w3_.drew = w4_ at BKg1 Z4 HB hHeld ⊢
 refine tx 3 12 8 rfl rfl (by kernel_rfl) hHeld (by rintro w' ⟨s0, s1⟩; go_simp; with_reducible rfl) ?_
 refine px 0 12 9 (by kernel_rfl) ?_
 refine px 2 12 13 (by kernel_rfl) ?_
 refine join_ (σ := Value × Value × Value × Value × Value × Value × Value) 2 #[Y,Y,Y,Y,Y,Y,Y,Y,Y,Y,Z,Z] (fun s_ => [(31, s_.1), (34, s_.2.1), (35, s_.2.2.1), (8, s_.2.2.2.1), (29, s_.2.2.2.2.1), (36, s_.2.2.2.2.2.1), (37, s_.2.2.2.2.2.2)]) (fun s_ w' => ∃ (g34 n35 n36 : Nat) (A28 : Option Addr) (c29 : Nat) (P31 : Nat → Prop), s_.2.2.1 = .tuple #[.agg #[.int .i64 t27_0, .slice A28 t27_1.length c29], .bool t27_2] ∧ s_.2.2.2.1 = .pointer (some ⟨g34, 0, none⟩) ∧ s_.2.2.2.2.1 = .tuple #[.agg #[.int .i64 t27_0, .slice A28 t27_1.length c29], .bool t27_2] ∧ s_.2.2.2.2.2.1 = .agg #[.int .i64 t27_0, .slice A28 t27_1.length c29] ∧ s_.2.2.2.2.2.2 = .bool t27_2 ∧ w'.heap[g34]? = some (.cells #[.int .i64 0, .slice none 0 0] 30 (0, 0)) ∧ Below w4_.heap.size w4_ w' ∧ (w4_.heap.size ≤ g34 ∧ g34 < w'.heap.size ∧ w4_.heap.size ≤ n35 ∧ n35 ≤ n36 ∧ n36 ≤ w'.heap.size ∧ (g34 < n35 ∨ n36 ≤ g34)) ∧ Kd.S k53 53 w' w.heap.size P31 (.slice A28 t27_1.length c29) t27_1 ∧ (∀ k_, P31 k_ → n35 ≤ k_ ∧ k_ < n36) ∧ (∀ k_, P31 k_ → True)) ?_ (fun hJ => ?_)
 rotate_left
 ·have HL := xm (Below.refl w4_.heap.size w4_)
  refine two_ (i := 1) (j := 9) (Ni := some 31) (Nj := some 8) #[Y,Y,Y,Y,Z,Z,Z,Z,Z,Z,Z,Z] #[Y,Z,Y,Y,Z,Z,Z,Z,Z,Y,Z,Z] rfl rfl rfl rfl (by kernel_rfl) (by decide) (by decide) (fun K hK => ?_) (fun K hK => ?_)
  ·refine goes_ Try.func7 (by kernel_rfl) rfl #[.slice A0 l0.length c0] (by rfl) rfl rfl mB ?_
   refine (laws_toDependS.calls k _ _ l0 t7_0 _ (Kd.C_below (Kd.C_below HR0.out HB.out) HL.out) HC0.out t7A.out).mono ?_
   rintro e wl4_ ⟨v0_, rfl, h0_, hb_⟩
   refine ⟨_, rfl, ?_⟩
   obtain ⟨A8, c9, rfl⟩ := Kd.S_slice h0_
   have F10 := xm h0_
   have ml_ := xm (below_step HL.out hb_)
   clear HL
   have HL := ml_
   clear ml_
   clear h0_
   clear hb_
   refine hK.out _ _ ⟨(pw_cell_below HL.out ((xc BKg1.out 0).trans rfl)), (pw_cell_below HL.out ((xc BKg1.out 1).trans rfl))⟩ (fun hHeld => nC ?_)
   clear hK K
   refine two_ (i := 4) (j := 9) (Ni := some 34) (Nj := some 8) #[Y,Y,Y,Y,Y,Z,Z,Z,Z,Z,Z,Z] #[Y,Y,Y,Y,Z,Z,Z,Z,Z,Y,Z,Z] rfl rfl rfl rfl (by kernel_rfl) (by decide) (by decide) (fun K hK => ?_) (fun K hK => ?_)
   ·refine goes_ Try.func8 (by kernel_rfl) rfl #[.agg #[.slice A2_0 l2_0.length c2_0, .slice A2_1 l2_1.length c2_1]] (by rfl) rfl rfl mB ?_
    refine (laws_toDepend.calls k _ _ l2_0 _ _ l2_1 t14_0 t14_1 _ (Kd.C_below (Kd.C_below HR2_0.out HB.out) HL.out) HC2_0.out (Kd.C_below (Kd.C_below HR2_1.out HB.out) HL.out) HC2_1.out t14A.out).mono ?_
    rintro e wl5_ ⟨v0_, v1_, rfl, h0_, h1_, hb_⟩
    refine ⟨_, rfl, ?_⟩
    obtain ⟨A15, c16, rfl⟩ := Kd.R_slice h0_
    obtain ⟨A21, c22, rfl⟩ := Kd.R_slice h1_
    have F17 := xm h0_
    have F23 := xm h1_
    have ml_ := xm (below_step HL.out hb_)
    clear HL
    have HL := ml_
    clear ml_
    clear h0_ h1_
    have mk_ := xm (Kd.S_below F10.out hb_)
    clear F10
    have F10 := mk_
    clear mk_
    clear hb_
    refine hK.out _ _ ⟨(pw_cell_below HL.out ((xc BKg1.out 0).trans rfl)), (pw_cell_below HL.out ((xc BKg1.out 1).trans rfl))⟩ (fun hHeld => nC ?_)
    clear hK K
    refine two_ (i := 5) (j := 9) (Ni := some 35) (Nj := some 8) #[Y,Y,Y,Y,Y,Y,Z,Z,Z,Z,Z,Z] #[Y,Y,Y,Y,Y,Z,Z,Z,Z,Y,Z,Z] rfl rfl rfl rfl (by kernel_rfl) (by decide) (by decide) (fun K hK => ?_) (fun K hK => ?_)
    ·refine goes_ Try.func6 (by kernel_rfl) rfl #[.slice A8 t7_0.length c9, .int .i64 a1, .agg #[.slice A15 t14_0.length c16, .slice A21 t14_1.length c22]] (by rfl) rfl rfl mB ?_
     refine (spec_WitnessFor.calls k _ _ t7_0 a1 _ _ t14_0 _ _ t14_1 t27_0 t27_1 t27_2 _ (Kd.S_reads' F10.out).2.2 (Kd.S_reads' F10.out).2.1 (Kd.R_reads' F17.out).2.2 (Kd.R_reads' F17.out).2.1 (Kd.R_reads' F23.out).2.2 (Kd.R_reads' F23.out).2.1 t27A.out).mono ?_
     rintro e wl6_ ⟨v1_, rfl, h0_, hb_⟩
     refine ⟨_, rfl, ?_⟩
     obtain ⟨A28, c29, rfl⟩ := Kd.S_slice h0_
     obtain ⟨P31, p1_, p2_, p3_⟩ := hideS (base := w.heap.size) h0_ (Nat.le_trans HB.out.size HL.out.size)
     have F30 := xm p1_
     have B32 := xm p2_
     have T33 := xm p3_
     clear p1_ p2_ p3_
     have HP_ := xm HL.out.size
     have GL_ := xm (Nat.le_refl 0)
     have ml_ := xm (below_step HL.out hb_)
     clear HL
     have HL := ml_
     clear ml_
     clear h0_
     have mk_ := xm (Kd.S_below F10.out hb_)
     clear F10
     have F10 := mk_
     clear mk_
     have mk_ := xm (Kd.R_below F17.out hb_)
     clear F17
     have F17 := mk_
     clear mk_
     have mk_ := xm (Kd.R_below F23.out hb_)
     clear F23
     have F23 := mk_
     clear mk_
     obtain ⟨nlo_, hnlo_⟩ : ∃ q_, q_ = wl5_.heap.size := ⟨_, rfl⟩
     obtain ⟨nhi_, hnhi_⟩ : ∃ q_, q_ = wl6_.heap.size := ⟨_, rfl⟩
     have mB_ : Aside0 (∀ k_, P31 k_ → nlo_ ≤ k_ ∧ k_ < nhi_) := xm (by rw [hnlo_, hnhi_]; exact B32.out)
     clear B32
     have B32 := mB_
     clear mB_
     have ZL : Aside0 (w4_.heap.size ≤ nlo_ ∧ nlo_ ≤ nhi_ ∧ nhi_ ≤ wl6_.heap.size) := xm (by have z1_ := HP_.out; have z2_ := hb_.size; omega)
     clear hnlo_ hnhi_
     clear hb_
     refine hK.out _ _ ⟨(pw_cell_below HL.out ((xc BKg1.out 0).trans rfl)), (pw_cell_below HL.out ((xc BKg1.out 1).trans rfl))⟩ (fun hHeld => nC ?_)
     clear hK K
     refine px 6 12 127 (by kernel_rfl) ?_
     refine px 7 12 255 (by kernel_rfl) ?_
     refine px 8 12 511 (by kernel_rfl) ?_
     refine one_ (i := 9) (N := some 8) #[Y,Y,Y,Y,Y,Y,Y,Y,Y,Y,Z,Z] rfl rfl (by kernel_rfl) (by decide) (fun K hK => ?_)
     refine value_ (v := .pointer (some ⟨wl6_.heap.size, 0, none⟩)) (w1 := wl6_.alloc (.cells #[.int .i64 0, .slice none 0 0] 30 (0, 0))) (by rfl) rfl zB ?_
     obtain ⟨wl10_, gq_, hgq_, hwq_, hbq_⟩ : ∃ (W_ : World) (g_ : Nat), g_ = wl6_.heap.size ∧ W_ = wl6_.alloc (.cells #[.int .i64 0, .slice none 0 0] 30 (0, 0)) ∧ True := ⟨_, _, rfl, rfl, trivial⟩
     rw [← hwq_, ← hgq_]
     have hb_ : Below wl6_.heap.size wl6_ wl10_ := by rw [hwq_]; exact xa (Below.refl _ _) _
     have BQ : Aside0 (wl10_.heap[gq_]? = some (.cells #[.int .i64 0, .slice none 0 0] 30 (0, 0))) := xm (by rw [hwq_, hgq_]; exact blk_new _ _)
     have ZQ : Aside0 (w4_.heap.size ≤ gq_ ∧ gq_ < wl10_.heap.size ∧ w4_.heap.size ≤ nlo_ ∧ nlo_ ≤ nhi_ ∧ nhi_ ≤ wl10_.heap.size ∧ (gq_ < nlo_ ∨ nhi_ ≤ gq_)) := xm (by have z1_ := ZL.out; have z2_ := hb_.size; have z3_ := blk_lt BQ.out; have z4_ := HL.out.size; omega)
     have ml_ := xm (below_step HL.out hb_)
     clear HL
     have HL := ml_
     clear ml_
     have mk_ := xm (Kd.S_below F10.out hb_)
     clear F10
     have F10 := mk_
     clear mk_
     have mk_ := xm (Kd.R_below F17.out hb_)
     clear F17
     have F17 := mk_
     clear mk_
     have mk_ := xm (Kd.R_below F23.out hb_)
     clear F23
     have F23 := mk_
     clear mk_
     have mk_ := xm (Kd.S_below F30.out hb_)
     clear F30
     have F30 := mk_
     clear mk_
     clear hb_ hgq_ hwq_ hbq_
     refine hK.out _ _ ⟨(pw_cell_below HL.out ((xc BKg1.out 0).trans rfl)), (pw_cell_below HL.out ((xc BKg1.out 1).trans rfl))⟩ (fun hHeld => nC ?_)
     clear hK K
     exact norm_ pB (hJ (.slice A8 t7_0.length c9, .agg #[.slice A15 t14_0.length c16, .slice A21 t14_1.length c22], .tuple #[.agg #[.int .i64 t27_0, .slice A28 t27_1.length c29], .bool t27_2], .pointer (some ⟨gq_, 0, none⟩), .tuple #[.agg #[.int .i64 t27_0, .slice A28 t27_1.length c29], .bool t27_2], .agg #[.int .i64 t27_0, .slice A28 t27_1.length c29], .bool t27_2) _ ⟨gq_, nlo_, nhi_, A28, c29, P31, rfl, rfl, rfl, rfl, rfl, BQ.out, HL.out, ZQ.out, F30.out, B32.out, T33.out⟩)
    ·refine value_ (v := .pointer (some ⟨wl5_.heap.size, 0, none⟩)) (w1 := wl5_.alloc (.cells #[.int .i64 0, .slice none 0 0] 30 (0, 0))) (by rfl) rfl zB ?_
     obtain ⟨wl6_, gq_, hgq_, hwq_, hbq_⟩ : ∃ (W_ : World) (g_ : Nat), g_ = wl5_.heap.size ∧ W_ = wl5_.alloc (.cells #[.int .i64 0, .slice none 0 0] 30 (0, 0)) ∧ True := ⟨_, _, rfl, rfl, trivial⟩
     rw [← hwq_, ← hgq_]
     have hb_ : Below wl5_.heap.size wl5_ wl6_ := by rw [hwq_]; exact xa (Below.refl _ _) _
     have BQ : Aside0 (wl6_.heap[gq_]? = some (.cells #[.int .i64 0, .slice none 0 0] 30 (0, 0))) := xm (by rw [hwq_, hgq_]; exact blk_new _ _)
     have GQ := xm (show w4_.heap.size ≤ gq_ ∧ gq_ < wl6_.heap.size from ⟨by rw [hgq_]; exact HL.out.size, blk_lt BQ.out⟩)
     have ml_ := xm (below_step HL.out hb_)
     clear HL
     have HL := ml_
     clear ml_
     have mk_ := xm (Kd.S_below F10.out hb_)
     clear F10
     have F10 := mk_
     clear mk_
     have mk_ := xm (Kd.R_below F17.out hb_)
     clear F17
     have F17 := mk_
     clear mk_
     have mk_ := xm (Kd.R_below F23.out hb_)
     clear F23
     have F23 := mk_
     clear mk_
     clear hb_ hgq_ hwq_ hbq_
     refine hK.out _ _ ⟨(pw_cell_below HL.out ((xc BKg1.out 0).trans rfl)), (pw_cell_below HL.out ((xc BKg1.out 1).trans rfl))⟩ (fun hHeld => nC ?_)
     clear hK K
     refine one_ (i := 5) (N := some 35) #[Y,Y,Y,Y,Y,Y,Z,Z,Z,Y,Z,Z] rfl rfl (by kernel_rfl) (by decide) (fun K hK => ?_)
     refine goes_ Try.func6 (by kernel_rfl) rfl #[.slice A8 t7_0.length c9, .int .i64 a1, .agg #[.slice A15 t14_0.length c16, .slice A21 t14_1.length c22]] (by rfl) rfl rfl mB ?_
     refine (spec_WitnessFor.calls k _ _ t7_0 a1 _ _ t14_0 _ _ t14_1 t27_0 t27_1 t27_2 _ (Kd.S_reads' F10.out).2.2 (Kd.S_reads' F10.out).2.1 (Kd.R_reads' F17.out).2.2 (Kd.R_reads' F17.out).2.1 (Kd.R_reads' F23.out).2.2 (Kd.R_reads' F23.out).2.1 t27A.out).mono ?_
     rintro e wl7_ ⟨v1_, rfl, h0_, hb_⟩
     refine ⟨_, rfl, ?_⟩
     obtain ⟨A28, c29, rfl⟩ := Kd.S_slice h0_
     obtain ⟨P31, p1_, p2_, p3_⟩ := hideS (base := w.heap.size) h0_ (Nat.le_trans HB.out.size HL.out.size)
     have F30 := xm p1_
     have B32 := xm p2_
     have T33 := xm p3_
     clear p1_ p2_ p3_
     have HP_ := xm HL.out.size
     have GL_ := xm (Nat.le_refl 0)
     have ml_ := xm (below_step HL.out hb_)
     clear HL
     have HL := ml_
     clear ml_
     clear h0_
     have GL_ := xm (blk_lt BQ.out)
     have mq_ := xm (blk_below BQ.out hb_)
     clear BQ
     have BQ := mq_
     clear mq_
     have mk_ := xm (Kd.S_below F10.out hb_)
     clear F10
     have F10 := mk_
     clear mk_
     have mk_ := xm (Kd.R_below F17.out hb_)
     clear F17
     have F17 := mk_
     clear mk_
     have mk_ := xm (Kd.R_below F23.out hb_)
     clear F23
     have F23 := mk_
     clear mk_
     obtain ⟨nlo_, hnlo_⟩ : ∃ q_, q_ = wl6_.heap.size := ⟨_, rfl⟩
     obtain ⟨nhi_, hnhi_⟩ : ∃ q_, q_ = wl7_.heap.size := ⟨_, rfl⟩
     have mB_ : Aside0 (∀ k_, P31 k_ → nlo_ ≤ k_ ∧ k_ < nhi_) := xm (by rw [hnlo_, hnhi_]; exact B32.out)
     clear B32
     have B32 := mB_
     clear mB_
     have ZQ : Aside0 (w4_.heap.size ≤ gq_ ∧ gq_ < wl7_.heap.size ∧ w4_.heap.size ≤ nlo_ ∧ nlo_ ≤ nhi_ ∧ nhi_ ≤ wl7_.heap.size ∧ (gq_ < nlo_ ∨ nhi_ ≤ gq_)) := xm (by have z1_ := GL_.out; have z2_ := hb_.size; have z3_ := GQ.out; have z4_ := blk_lt BQ.out; have z5_ := HP_.out; omega)
     clear hnlo_ hnhi_
     clear hb_
     refine hK.out _ _ ⟨(pw_cell_below HL.out ((xc BKg1.out 0).trans rfl)), (pw_cell_below HL.out ((xc BKg1.out 1).trans rfl))⟩ (fun hHeld => nC ?_)
     clear hK K
     refine px 6 12 639 (by kernel_rfl) ?_
     refine px 7 12 767 (by kernel_rfl) ?_
     refine px 8 12 1023 (by kernel_rfl) ?_
     exact norm_ pB (hJ (.slice A8 t7_0.length c9, .agg #[.slice A15 t14_0.length c16, .slice A21 t14_1.length c22], .tuple #[.agg #[.int .i64 t27_0, .slice A28 t27_1.length c29], .bool t27_2], .pointer (some ⟨gq_, 0, none⟩), .tuple #[.agg #[.int .i64 t27_0, .slice A28 t27_1.length c29], .bool t27_2], .agg #[.int .i64 t27_0, .slice A28 t27_1.length c29], .bool t27_2) _ ⟨gq_, nlo_, nhi_, A28, c29, P31, rfl, rfl, rfl, rfl, rfl, BQ.out, HL.out, ZQ.out, F30.out, B32.out, T33.out⟩)
   ·refine value_ (v := .pointer (some ⟨wl4_.heap.size, 0, none⟩)) (w1 := wl4_.alloc (.cells #[.int .i64 0, .slice none 0 0] 30 (0, 0))) (by rfl) rfl zB ?_
    obtain ⟨wl5_, gq_, hgq_, hwq_, hbq_⟩ : ∃ (W_ : World) (g_ : Nat), g_ = wl4_.heap.size ∧ W_ = wl4_.alloc (.cells #[.int .i64 0, .slice none 0 0] 30 (0, 0)) ∧ True := ⟨_, _, rfl, rfl, trivial⟩
    rw [← hwq_, ← hgq_]
    have hb_ : Below wl4_.heap.size wl4_ wl5_ := by rw [hwq_]; exact xa (Below.refl _ _) _
    have BQ : Aside0 (wl5_.heap[gq_]? = some (.cells #[.int .i64 0, .slice none 0 0] 30 (0, 0))) := xm (by rw [hwq_, hgq_]; exact blk_new _ _)
    have GQ := xm (show w4_.heap.size ≤ gq_ ∧ gq_ < wl5_.heap.size from ⟨by rw [hgq_]; exact HL.out.size, blk_lt BQ.out⟩)
    have ml_ := xm (below_step HL.out hb_)
    clear HL
    have HL := ml_
    clear ml_
    have mk_ := xm (Kd.S_below F10.out hb_)
    clear F10
    have F10 := mk_
    clear mk_
    clear hb_ hgq_ hwq_ hbq_
    refine hK.out _ _ ⟨(pw_cell_below HL.out ((xc BKg1.out 0).trans rfl)), (pw_cell_below HL.out ((xc BKg1.out 1).trans rfl))⟩ (fun hHeld => nC ?_)
    clear hK K
    refine one_ (i := 4) (N := some 34) #[Y,Y,Y,Y,Y,Z,Z,Z,Z,Y,Z,Z] rfl rfl (by kernel_rfl) (by decide) (fun K hK => ?_)
    refine goes_ Try.func8 (by kernel_rfl) rfl #[.agg #[.slice A2_0 l2_0.length c2_0, .slice A2_1 l2_1.length c2_1]] (by rfl) rfl rfl mB ?_
    refine (laws_toDepend.calls k _ _ l2_0 _ _ l2_1 t14_0 t14_1 _ (Kd.C_below (Kd.C_below HR2_0.out HB.out) HL.out) HC2_0.out (Kd.C_below (Kd.C_below HR2_1.out HB.out) HL.out) HC2_1.out t14A.out).mono ?_
    rintro e wl6_ ⟨v0_, v1_, rfl, h0_, h1_, hb_⟩
    refine ⟨_, rfl, ?_⟩
    obtain ⟨A15, c16, rfl⟩ := Kd.R_slice h0_
    obtain ⟨A21, c22, rfl⟩ := Kd.R_slice h1_
    have F17 := xm h0_
    have F23 := xm h1_
    have ml_ := xm (below_step HL.out hb_)
    clear HL
    have HL := ml_
    clear ml_
    clear h0_ h1_
    have GL_ := xm (blk_lt BQ.out)
    have mq_ := xm (blk_below BQ.out hb_)
    clear BQ
    have BQ := mq_
    clear mq_
    have mk_ := xm (Kd.S_below F10.out hb_)
    clear F10
    have F10 := mk_
    clear mk_
    clear hb_
    refine hK.out _ _ ⟨(pw_cell_below HL.out ((xc BKg1.out 0).trans rfl)), (pw_cell_below HL.out ((xc BKg1.out 1).trans rfl))⟩ (fun hHeld => nC ?_)
    clear hK K
    refine one_ (i := 5) (N := some 35) #[Y,Y,Y,Y,Y,Y,Z,Z,Z,Y,Z,Z] rfl rfl (by kernel_rfl) (by decide) (fun K hK => ?_)
    refine goes_ Try.func6 (by kernel_rfl) rfl #[.slice A8 t7_0.length c9, .int .i64 a1, .agg #[.slice A15 t14_0.length c16, .slice A21 t14_1.length c22]] (by rfl) rfl rfl mB ?_
    refine (spec_WitnessFor.calls k _ _ t7_0 a1 _ _ t14_0 _ _ t14_1 t27_0 t27_1 t27_2 _ (Kd.S_reads' F10.out).2.2 (Kd.S_reads' F10.out).2.1 (Kd.R_reads' F17.out).2.2 (Kd.R_reads' F17.out).2.1 (Kd.R_reads' F23.out).2.2 (Kd.R_reads' F23.out).2.1 t27A.out).mono ?_
    rintro e wl7_ ⟨v1_, rfl, h0_, hb_⟩
    refine ⟨_, rfl, ?_⟩
    obtain ⟨A28, c29, rfl⟩ := Kd.S_slice h0_
    obtain ⟨P31, p1_, p2_, p3_⟩ := hideS (base := w.heap.size) h0_ (Nat.le_trans HB.out.size HL.out.size)
    have F30 := xm p1_
    have B32 := xm p2_
    have T33 := xm p3_
    clear p1_ p2_ p3_
    have HP_ := xm HL.out.size
    have GL_ := xm (Nat.le_refl 0)
    have ml_ := xm (below_step HL.out hb_)
    clear HL
    have HL := ml_
    clear ml_
    clear h0_
    have GL_ := xm (blk_lt BQ.out)
    have mq_ := xm (blk_below BQ.out hb_)
    clear BQ
    have BQ := mq_
    clear mq_
    have mk_ := xm (Kd.S_below F10.out hb_)
    clear F10
    have F10 := mk_
    clear mk_
    have mk_ := xm (Kd.R_below F17.out hb_)
    clear F17
    have F17 := mk_
    clear mk_
    have mk_ := xm (Kd.R_below F23.out hb_)
    clear F23
    have F23 := mk_
    clear mk_
    obtain ⟨nlo_, hnlo_⟩ : ∃ q_, q_ = wl6_.heap.size := ⟨_, rfl⟩
    obtain ⟨nhi_, hnhi_⟩ : ∃ q_, q_ = wl7_.heap.size := ⟨_, rfl⟩
    have mB_ : Aside0 (∀ k_, P31 k_ → nlo_ ≤ k_ ∧ k_ < nhi_) := xm (by rw [hnlo_, hnhi_]; exact B32.out)
    clear B32
    have B32 := mB_
    clear mB_
    have ZQ : Aside0 (w4_.heap.size ≤ gq_ ∧ gq_ < wl7_.heap.size ∧ w4_.heap.size ≤ nlo_ ∧ nlo_ ≤ nhi_ ∧ nhi_ ≤ wl7_.heap.size ∧ (gq_ < nlo_ ∨ nhi_ ≤ gq_)) := xm (by have z1_ := GL_.out; have z2_ := hb_.size; have z3_ := GQ.out; have z4_ := blk_lt BQ.out; have z5_ := HP_.out; omega)
    clear hnlo_ hnhi_
    clear hb_
    refine hK.out _ _ ⟨(pw_cell_below HL.out ((xc BKg1.out 0).trans rfl)), (pw_cell_below HL.out ((xc BKg1.out 1).trans rfl))⟩ (fun hHeld => nC ?_)
    clear hK K
    refine px 6 12 639 (by kernel_rfl) ?_
    refine px 7 12 767 (by kernel_rfl) ?_
    refine px 8 12 1023 (by kernel_rfl) ?_
    exact norm_ pB (hJ (.slice A8 t7_0.length c9, .agg #[.slice A15 t14_0.length c16, .slice A21 t14_1.length c22], .tuple #[.agg #[.int .i64 t27_0, .slice A28 t27_1.length c29], .bool t27_2], .pointer (some ⟨gq_, 0, none⟩), .tuple #[.agg #[.int .i64 t27_0, .slice A28 t27_1.length c29], .bool t27_2], .agg #[.int .i64 t27_0, .slice A28 t27_1.length c29], .bool t27_2) _ ⟨gq_, nlo_, nhi_, A28, c29, P31, rfl, rfl, rfl, rfl, rfl, BQ.out, HL.out, ZQ.out, F30.out, B32.out, T33.out⟩)
  ·refine value_ (v := .pointer (some ⟨w4_.heap.size, 0, none⟩)) (w1 := w4_.alloc (.cells #[.int .i64 0, .slice none 0 0] 30 (0, 0))) (by rfl) rfl zB ?_
   obtain ⟨wl4_, gq_, hgq_, hwq_, hbq_⟩ : ∃ (W_ : World) (g_ : Nat), g_ = w4_.heap.size ∧ W_ = w4_.alloc (.cells #[.int .i64 0, .slice none 0 0] 30 (0, 0)) ∧ True := ⟨_, _, rfl, rfl, trivial⟩
   rw [← hwq_, ← hgq_]
   have hb_ : Below w4_.heap.size w4_ wl4_ := by rw [hwq_]; exact xa (Below.refl _ _) _
   have BQ : Aside0 (wl4_.heap[gq_]? = some (.cells #[.int .i64 0, .slice none 0 0] 30 (0, 0))) := xm (by rw [hwq_, hgq_]; exact blk_new _ _)
   have GQ := xm (show w4_.heap.size ≤ gq_ ∧ gq_ < wl4_.heap.size from ⟨by rw [hgq_]; exact HL.out.size, blk_lt BQ.out⟩)
   have ml_ := xm (below_step HL.out hb_)
   clear HL
   have HL := ml_
   clear ml_
   clear hb_ hgq_ hwq_ hbq_
   refine hK.out _ _ ⟨(pw_cell_below HL.out ((xc BKg1.out 0).trans rfl)), (pw_cell_below HL.out ((xc BKg1.out 1).trans rfl))⟩ (fun hHeld => nC ?_)
   clear hK K
   refine one_ (i := 1) (N := some 31) #[Y,Y,Y,Y,Z,Z,Z,Z,Z,Y,Z,Z] rfl rfl (by kernel_rfl) (by decide) (fun K hK => ?_)
   refine goes_ Try.func7 (by kernel_rfl) rfl #[.slice A0 l0.length c0] (by rfl) rfl rfl mB ?_
   refine (laws_toDependS.calls k _ _ l0 t7_0 _ (Kd.C_below (Kd.C_below HR0.out HB.out) HL.out) HC0.out t7A.out).mono ?_
   rintro e wl5_ ⟨v0_, rfl, h0_, hb_⟩
   refine ⟨_, rfl, ?_⟩
   obtain ⟨A8, c9, rfl⟩ := Kd.S_slice h0_
   have F10 := xm h0_
   have ml_ := xm (below_step HL.out hb_)
   clear HL
   have HL := ml_
   clear ml_
   clear h0_
   have GL_ := xm (blk_lt BQ.out)
   have mq_ := xm (blk_below BQ.out hb_)
   clear BQ
   have BQ := mq_
   clear mq_
   clear hb_
   refine hK.out _ _ ⟨(pw_cell_below HL.out ((xc BKg1.out 0).trans rfl)), (pw_cell_below HL.out ((xc BKg1.out 1).trans rfl))⟩ (fun hHeld => nC ?_)
   clear hK K
   refine one_ (i := 4) (N := some 34) #[Y,Y,Y,Y,Y,Z,Z,Z,Z,Y,Z,Z] rfl rfl (by kernel_rfl) (by decide) (fun K hK => ?_)
   refine goes_ Try.func8 (by kernel_rfl) rfl #[.agg #[.slice A2_0 l2_0.length c2_0, .slice A2_1 l2_1.length c2_1]] (by rfl) rfl rfl mB ?_
   refine (laws_toDepend.calls k _ _ l2_0 _ _ l2_1 t14_0 t14_1 _ (Kd.C_below (Kd.C_below HR2_0.out HB.out) HL.out) HC2_0.out (Kd.C_below (Kd.C_below HR2_1.out HB.out) HL.out) HC2_1.out t14A.out).mono ?_
   rintro e wl6_ ⟨v0_, v1_, rfl, h0_, h1_, hb_⟩
   refine ⟨_, rfl, ?_⟩
   obtain ⟨A15, c16, rfl⟩ := Kd.R_slice h0_
   obtain ⟨A21, c22, rfl⟩ := Kd.R_slice h1_
   have F17 := xm h0_
   have F23 := xm h1_
   have ml_ := xm (below_step HL.out hb_)
   clear HL
   have HL := ml_
   clear ml_
   clear h0_ h1_
   have GL_ := xm (blk_lt BQ.out)
   have mq_ := xm (blk_below BQ.out hb_)
   clear BQ
   have BQ := mq_
   clear mq_
   have mk_ := xm (Kd.S_below F10.out hb_)
   clear F10
   have F10 := mk_
   clear mk_
   clear hb_
   refine hK.out _ _ ⟨(pw_cell_below HL.out ((xc BKg1.out 0).trans rfl)), (pw_cell_below HL.out ((xc BKg1.out 1).trans rfl))⟩ (fun hHeld => nC ?_)
   clear hK K
   refine one_ (i := 5) (N := some 35) #[Y,Y,Y,Y,Y,Y,Z,Z,Z,Y,Z,Z] rfl rfl (by kernel_rfl) (by decide) (fun K hK => ?_)
   refine goes_ Try.func6 (by kernel_rfl) rfl #[.slice A8 t7_0.length c9, .int .i64 a1, .agg #[.slice A15 t14_0.length c16, .slice A21 t14_1.length c22]] (by rfl) rfl rfl mB ?_
   refine (spec_WitnessFor.calls k _ _ t7_0 a1 _ _ t14_0 _ _ t14_1 t27_0 t27_1 t27_2 _ (Kd.S_reads' F10.out).2.2 (Kd.S_reads' F10.out).2.1 (Kd.R_reads' F17.out).2.2 (Kd.R_reads' F17.out).2.1 (Kd.R_reads' F23.out).2.2 (Kd.R_reads' F23.out).2.1 t27A.out).mono ?_
   rintro e wl7_ ⟨v1_, rfl, h0_, hb_⟩
   refine ⟨_, rfl, ?_⟩
   obtain ⟨A28, c29, rfl⟩ := Kd.S_slice h0_
   obtain ⟨P31, p1_, p2_, p3_⟩ := hideS (base := w.heap.size) h0_ (Nat.le_trans HB.out.size HL.out.size)
   have F30 := xm p1_
   have B32 := xm p2_
   have T33 := xm p3_
   clear p1_ p2_ p3_
   have HP_ := xm HL.out.size
   have GL_ := xm (Nat.le_refl 0)
   have ml_ := xm (below_step HL.out hb_)
   clear HL
   have HL := ml_
   clear ml_
   clear h0_
   have GL_ := xm (blk_lt BQ.out)
   have mq_ := xm (blk_below BQ.out hb_)
   clear BQ
   have BQ := mq_
   clear mq_
   have mk_ := xm (Kd.S_below F10.out hb_)
   clear F10
   have F10 := mk_
   clear mk_
   have mk_ := xm (Kd.R_below F17.out hb_)
   clear F17
   have F17 := mk_
   clear mk_
   have mk_ := xm (Kd.R_below F23.out hb_)
   clear F23
   have F23 := mk_
   clear mk_
   obtain ⟨nlo_, hnlo_⟩ : ∃ q_, q_ = wl6_.heap.size := ⟨_, rfl⟩
   obtain ⟨nhi_, hnhi_⟩ : ∃ q_, q_ = wl7_.heap.size := ⟨_, rfl⟩
   have mB_ : Aside0 (∀ k_, P31 k_ → nlo_ ≤ k_ ∧ k_ < nhi_) := xm (by rw [hnlo_, hnhi_]; exact B32.out)
   clear B32
   have B32 := mB_
   clear mB_
   have ZQ : Aside0 (w4_.heap.size ≤ gq_ ∧ gq_ < wl7_.heap.size ∧ w4_.heap.size ≤ nlo_ ∧ nlo_ ≤ nhi_ ∧ nhi_ ≤ wl7_.heap.size ∧ (gq_ < nlo_ ∨ nhi_ ≤ gq_)) := xm (by have z1_ := GL_.out; have z2_ := hb_.size; have z3_ := GQ.out; have z4_ := blk_lt BQ.out; have z5_ := HP_.out; omega)
   clear hnlo_ hnhi_
   clear hb_
   refine hK.out _ _ ⟨(pw_cell_below HL.out ((xc BKg1.out 0).trans rfl)), (pw_cell_below HL.out ((xc BKg1.out 1).trans rfl))⟩ (fun hHeld => nC ?_)
   clear hK K
   refine px 6 12 639 (by kernel_rfl) ?_
   refine px 7 12 767 (by kernel_rfl) ?_
   refine px 8 12 1023 (by kernel_rfl) ?_
   exact norm_ pB (hJ (.slice A8 t7_0.length c9, .agg #[.slice A15 t14_0.length c16, .slice A21 t14_1.length c22], .tuple #[.agg #[.int .i64 t27_0, .slice A28 t27_1.length c29], .bool t27_2], .pointer (some ⟨gq_, 0, none⟩), .tuple #[.agg #[.int .i64 t27_0, .slice A28 t27_1.length c29], .bool t27_2], .agg #[.int .i64 t27_0, .slice A28 t27_1.length c29], .bool t27_2) _ ⟨gq_, nlo_, nhi_, A28, c29, P31, rfl, rfl, rfl, rfl, rfl, BQ.out, HL.out, ZQ.out, F30.out, B32.out, T33.out⟩)
 intro s_ w5_ hF_
 obtain ⟨v0_, v1_, v2_, v3_, v4_, v5_, v6_⟩ := s_
 (try dsimp only at hF_)
 obtain ⟨g34, n35, n36, A28, c29, P31, e1_, e2_, e3_, e4_, e5_, hbk_, hb_, hz_, hr0_, hp0_, ht0_⟩ := hF_
 subst e1_ e2_ e3_ e4_ e5_
 have ZJ5 := xm hz_
 have Z5 := xm (hb_.size : w4_.heap.size ≤ w5_.heap.size)
 have hk_ := Kept.of_below hb_ (fun _ => False)
 have m0_ := xm (blk_kept BKg1.out hk_ (fun h_ => h_))
 clear BKg1
 have BKg1 := m0_
 clear m0_
 have m0_ := xm (below_step (w := w) HB.out hb_)
 clear HB
 have HB := m0_
 clear m0_
 have BKg34 := xm hbk_
 have GBg34 : Aside0 (w4_.heap.size ≤ g34 ∧ g34 < w5_.heap.size) := xm ⟨hz_.1, hz_.2.1⟩
 have F30 := xm hr0_
 have B32 := xm hp0_
 have T33 := xm ht0_
 clear hbk_ hb_ hz_ hk_ hr0_ hp0_ ht0_
 refine norm_ (a' := ?_) ?_ ?_
 rotate_left
 ·simp only [putAll, Act.put, xi, xj, xk]
  rfl
 obtain ⟨hcg34_0, hfg34_0, hcg34_1, hfg34_1⟩ := laws_FnExactWitnessFor.cs2 BKg34.out
 refine one_ (i := 10) (N := none) #[Y,Y,Y,Y,Y,Y,Y,Y,Y,Y,Y,Z] rfl rfl (by kernel_rfl) (by decide) (fun K hK => ?_)
 refine skip_ (by rfl) rfl (w1 := ((w5_.setCell ⟨g34, 0, none⟩ (.int .i64 t27_0)).setCell ⟨g34, 1, none⟩ (.slice A28 t27_1.length c29))) zB ?_
 obtain ⟨w6_, hw_⟩ : ∃ W_ : World, W_ = ((w5_.setCell ⟨g34, 0, none⟩ (.int .i64 t27_0)).setCell ⟨g34, 1, none⟩ (.slice A28 t27_1.length c29)) := ⟨_, rfl⟩
 rw [← hw_]
 clear hcg34_0 hfg34_0 hcg34_1 hfg34_1
 have hk_ : Kept w5_ w6_ (fun k_ => k_ = g34) := (by rw [hw_]; exact kept_box (kept_box (Kept.refl _ _) _ _) _ _)
 have hx_ : w6_.heap[g34]? = some (.cells #[.int .i64 t27_0, .slice A28 t27_1.length c29] 30 (0, 0)) := (by rw [hw_]; refine blk_put (cs := #[.int .i64 t27_0, .slice none 0 0]) ?_ 1 _ rfl; refine blk_put (cs := #[.int .i64 0, .slice none 0 0]) ?_ 0 _ rfl; exact BKg34.out)
 have Z6 := xm (hk_.1 : w5_.heap.size ≤ w6_.heap.size)
 have ge_ : w.heap.size ≤ g34 := (by have := GBg34.out; have := Z1.out; have := Z2.out; have := Z3.out; have := Z4.out; have := ZJ5.out; omega)
 have mb_ : Aside0 (Below w.heap.size w w6_) := xm (by rw [hw_]; exact xt (xt (HB.out) ge_) ge_)
 have hk2_ := (Kept.mono hk_ (S' := fun k_ => g34 ≤ k_ ∧ k_ < g34 + 1) (fun k_ h_ => by have h_ : k_ = g34 := h_; exact ⟨by omega, by omega⟩))
 have m0_ := xm (Kd.S_kept F30.out hk2_ (fun k_ h_ h2_ => by have u1_ := B32.out k_ h_; have u2_ : g34 ≤ k_ ∧ k_ < g34 + 1 := h2_; have := ZJ5.out; omega))
 have m1_ := xm (blk_kept BKg1.out hk2_ (fun h2_ => by have u1_ := GBg1.out; have u2_ : g34 ≤ g1 ∧ g1 < g34 + 1 := h2_; have := Z2.out; have := Z3.out; have := Z4.out; have := ZJ5.out; omega))
 clear F30 BKg1
 have F30 := m0_
 have BKg1 := m1_
 clear m0_ m1_
 clear HB BKg34
 have HB := mb_
 have BKg34 := xm hx_
 clear mb_ hx_ hk_ hk2_ hw_ ge_
 refine hK.out _ _ ⟨((xc BKg1.out 0).trans rfl), ((xc BKg1.out 1).trans rfl)⟩ (fun hHeld => ?_)
 clear hK K
 refine px 11 12 4095 (by kernel_rfl) ?_
 refine done_ (by kernel_rfl) ?_
 (try clear hHeld)
 obtain ⟨hcg1_0, hfg1_0, hcg1_1, hfg1_1⟩ := laws_FnExactWitnessFor.cs2 BKg1.out
 obtain ⟨hcg34_0, hfg34_0, hcg34_1, hfg34_1⟩ := laws_FnExactWitnessFor.cs2 BKg34.out
 go_wp2_with (first
  | ((with_reducible refine gate_callee (f := 7) rfl ?_); refine goesL_ (some 39) rfl rfl Try.func7 (by kernel_rfl) rfl #[.slice A0 l0.length c0] rfl mB ?_; refine (laws_toDependS.calls k _ _ l0 t38_0 _ (Kd.C_below HR0.out HB.out) HC0.out t38A.out).mono ?_; rintro e w7_ ⟨v0_, rfl, h0_, hb_⟩; refine ⟨_, rfl, ?_⟩; have Z7 := xm (hb_.size : w6_.heap.size ≤ w7_.heap.size); have hk_ := Kept.of_below hb_ (fun _ => False); obtain ⟨A40, c41, rfl⟩ := Kd.S_slice h0_; obtain ⟨P42, p1_, p2_, p3_⟩ := hideS (base := w.heap.size) h0_ (szOf (w := w) HB.out); have F39 := xm p1_; have B43 : Aside0 (∀ k_, P42 k_ → w6_.heap.size ≤ k_ ∧ k_ < w7_.heap.size) := xm p2_; have T44 := xm p3_; clear p1_ p2_ p3_; have m0_ := xm (Kd.S_kept F30.out hk_ (fun _ _ h_ => h_)); have m1_ := xm (blk_kept BKg1.out hk_ (fun h_ => h_)); have m2_ := xm (blk_kept BKg34.out hk_ (fun h_ => h_)); clear F30 BKg1 BKg34; have F30 := m0_; have BKg1 := m1_; have BKg34 := m2_; clear m0_ m1_ m2_; have m0_ := xm (below_step (w := w) HB.out hb_); clear HB; have HB := m0_; clear m0_ hb_ hk_ h0_; clear hcg1_0 hfg1_0 hcg1_1 hfg1_1; obtain ⟨hcg1_0, hfg1_0, hcg1_1, hfg1_1⟩ := laws_FnExactWitnessFor.cs2 BKg1.out; clear hcg34_0 hfg34_0 hcg34_1 hfg34_1; obtain ⟨hcg34_0, hfg34_0, hcg34_1, hfg34_1⟩ := laws_FnExactWitnessFor.cs2 BKg34.out)
  | ((with_reducible refine gate_callee (f := 8) rfl ?_); refine goesL_ (some 41) rfl rfl Try.func8 (by kernel_rfl) rfl #[.agg #[.slice A2_0 l2_0.length c2_0, .slice A2_1 l2_1.length c2_1]] rfl mB ?_; refine (laws_toDepend.calls k _ _ l2_0 _ _ l2_1 t45_0 t45_1 _ (Kd.C_below HR2_0.out HB.out) HC2_0.out (Kd.C_below HR2_1.out HB.out) HC2_1.out t45A.out).mono ?_; rintro e w8_ ⟨v0_, v1_, rfl, h0_, h1_, hb_⟩; refine ⟨_, rfl, ?_⟩; have Z8 := xm (hb_.size : w7_.heap.size ≤ w8_.heap.size); have hk_ := Kept.of_below hb_ (fun _ => False); obtain ⟨A47, c48, rfl⟩ := Kd.R_slice h0_; obtain ⟨A53, c54, rfl⟩ := Kd.R_slice h1_; obtain ⟨P49, p1_, p2_, p3_⟩ := hideT (base := w.heap.size) rfl h0_ (szOf (w := w) HB.out); have F46 := xm p1_; have B50 : Aside0 (∀ k_, P49 k_ → w7_.heap.size ≤ k_ ∧ k_ < w8_.heap.size) := xm p2_; have T51 := xm p3_; clear p1_ p2_ p3_; obtain ⟨P55, p1_, p2_, p3_⟩ := hideT (base := w.heap.size) rfl h1_ (szOf (w := w) HB.out); have F52 := xm p1_; have B56 : Aside0 (∀ k_, P55 k_ → w7_.heap.size ≤ k_ ∧ k_ < w8_.heap.size) := xm p2_; have T57 := xm p3_; clear p1_ p2_ p3_; have m0_ := xm (Kd.S_kept F30.out hk_ (fun _ _ h_ => h_)); have m1_ := xm (Kd.S_kept F39.out hk_ (fun _ _ h_ => h_)); have m2_ := xm (blk_kept BKg1.out hk_ (fun h_ => h_)); have m3_ := xm (blk_kept BKg34.out hk_ (fun h_ => h_)); clear F30 F39 BKg1 BKg34; have F30 := m0_; have F39 := m1_; have BKg1 := m2_; have BKg34 := m3_; clear m0_ m1_ m2_ m3_; have m0_ := xm (below_step (w := w) HB.out hb_); clear HB; have HB := m0_; clear m0_ hb_ hk_ h0_ h1_; clear hcg1_0 hfg1_0 hcg1_1 hfg1_1; obtain ⟨hcg1_0, hfg1_0, hcg1_1, hfg1_1⟩ := laws_FnExactWitnessFor.cs2 BKg1.out; clear hcg34_0 hfg34_0 hcg34_1 hfg34_1; obtain ⟨hcg34_0, hfg34_0, hcg34_1, hfg34_1⟩ := laws_FnExactWitnessFor.cs2 BKg34.out)
  | ((with_reducible refine gate_dst (N := 11) rfl ?_); refine box_event ?hgq59 (N := 11) ?hdq59 (cs := #[.slice none 0 0, .slice none 0 0]) (t := 35) ?hrq59 ?_; (case hdq59 => rfl); (case hgq59 => rfl); (case hrq59 => exact zB); intro g58 hg_ w9_ hbox_ hb_; have Z9 := xm (hb_.size : w8_.heap.size ≤ w9_.heap.size); have hk_ := Kept.of_below hb_ (fun _ => False); have m0_ := xm (Kd.S_kept F30.out hk_ (fun _ _ h_ => h_)); have m1_ := xm (Kd.S_kept F39.out hk_ (fun _ _ h_ => h_)); have m2_ := xm (Kd.R_kept F46.out hk_ (fun _ _ h_ => h_)); have m3_ := xm (Kd.R_kept F52.out hk_ (fun _ _ h_ => h_)); have m4_ := xm (blk_kept BKg1.out hk_ (fun h_ => h_)); have m5_ := xm (blk_kept BKg34.out hk_ (fun h_ => h_)); clear F30 F39 F46 F52 BKg1 BKg34; have F30 := m0_; have F39 := m1_; have F46 := m2_; have F52 := m3_; have BKg1 := m4_; have BKg34 := m5_; clear m0_ m1_ m2_ m3_ m4_ m5_; have m0_ := xm (below_step (w := w) HB.out hb_); clear HB; have HB := m0_; have BKg58 := xm hbox_; have GBg58 : Aside0 (w8_.heap.size ≤ g58 ∧ g58 < w9_.heap.size) := xm ⟨by rw [hg_]; exact Nat.le_refl _, blk_lt hbox_⟩; clear m0_ hb_ hbox_ hg_ hk_; clear hcg1_0 hfg1_0 hcg1_1 hfg1_1; obtain ⟨hcg1_0, hfg1_0, hcg1_1, hfg1_1⟩ := laws_FnExactWitnessFor.cs2 BKg1.out; clear hcg34_0 hfg34_0 hcg34_1 hfg34_1; obtain ⟨hcg34_0, hfg34_0, hcg34_1, hfg34_1⟩ := laws_FnExactWitnessFor.cs2 BKg34.out; obtain ⟨hcg58_0, hfg58_0, hcg58_1, hfg58_1⟩ := laws_FnExactWitnessFor.cs2 BKg58.out)
  | ((with_reducible refine gate_store (t := 35) (p := 11) rfl ?_); refine store_event (t := 35) (p := 11) (v := ?voq60) (w1 := ((w9_.setCell ⟨g58, 0, none⟩ (.slice A47 t45_0.length c48)).setCell ⟨g58, 1, none⟩ (.slice A53 t45_1.length c54))) ?hgq60 ?hoq60 ?hnq60 ?hrq60 ?_; (case hoq60 => rfl); (case hgq60 => rfl); (case hnq60 => rfl); (case hrq60 => exact zB); intro w10_ hw_; have hk_ : Kept w9_ w10_ (fun k_ => k_ = g58) := (by rw [hw_]; exact kept_box (kept_box (Kept.refl _ _) _ _) _ _); have hx_ : w10_.heap[g58]? = some (.cells #[.slice A47 t45_0.length c48, .slice A53 t45_1.length c54] 35 (0, 0)) := (by rw [hw_]; refine blk_put (cs := #[.slice A47 t45_0.length c48, .slice none 0 0]) ?_ 1 _ rfl; refine blk_put (cs := #[.slice none 0 0, .slice none 0 0]) ?_ 0 _ rfl; exact BKg58.out); have Z10 := xm (hk_.1 : w9_.heap.size ≤ w10_.heap.size); have ge_ : w.heap.size ≤ g58 := (by have := GBg58.out; have := Z1.out; have := Z2.out; have := Z3.out; have := Z4.out; have := Z5.out; have := Z6.out; have := Z7.out; have := Z8.out; have := ZJ5.out; omega); have mb_ : Aside0 (Below w.heap.size w w10_) := xm (by rw [hw_]; exact xt (xt (HB.out) ge_) ge_); have hk2_ := (Kept.mono hk_ (S' := fun k_ => w8_.heap.size ≤ k_ ∧ k_ < w9_.heap.size) (fun k_ h_ => by have h_ : k_ = g58 := h_; subst h_; exact GBg58.out)); have m0_ := xm (Kd.S_kept F30.out hk2_ (fun k_ h_ h2_ => by have u1_ := B32.out k_ h_; have u2_ : w8_.heap.size ≤ k_ ∧ k_ < w9_.heap.size := h2_; have := Z6.out; have := Z7.out; have := Z8.out; have := ZJ5.out; omega)); have m1_ := xm (Kd.S_kept F39.out hk2_ (fun k_ h_ h2_ => by have u1_ := B43.out k_ h_; have u2_ : w8_.heap.size ≤ k_ ∧ k_ < w9_.heap.size := h2_; have := Z8.out; have := ZJ5.out; omega)); have m2_ := xm (Kd.R_kept F46.out hk2_ (fun k_ h_ h2_ => by have u1_ := B50.out k_ h_; have u2_ : w8_.heap.size ≤ k_ ∧ k_ < w9_.heap.size := h2_; have := ZJ5.out; omega)); have m3_ := xm (Kd.R_kept F52.out hk2_ (fun k_ h_ h2_ => by have u1_ := B56.out k_ h_; have u2_ : w8_.heap.size ≤ k_ ∧ k_ < w9_.heap.size := h2_; have := ZJ5.out; omega)); have m4_ := xm (blk_kept BKg1.out hk2_ (fun h2_ => by have u1_ := GBg1.out; have u2_ : w8_.heap.size ≤ g1 ∧ g1 < w9_.heap.size := h2_; have := Z2.out; have := Z3.out; have := Z4.out; have := Z5.out; have := Z6.out; have := Z7.out; have := Z8.out; have := ZJ5.out; omega)); have m5_ := xm (blk_kept BKg34.out hk2_ (fun h2_ => by have u1_ := GBg34.out; have u2_ : w8_.heap.size ≤ g34 ∧ g34 < w9_.heap.size := h2_; have := Z6.out; have := Z7.out; have := Z8.out; have := ZJ5.out; omega)); clear F30 F39 F46 F52 BKg1 BKg34; have F30 := m0_; have F39 := m1_; have F46 := m2_; have F52 := m3_; have BKg1 := m4_; have BKg34 := m5_; clear m0_ m1_ m2_ m3_ m4_ m5_; clear HB BKg58; have HB := mb_; have BKg58 := xm hx_; clear mb_ hx_ hk_ hk2_ hw_ ge_; clear hcg1_0 hfg1_0 hcg1_1 hfg1_1; obtain ⟨hcg1_0, hfg1_0, hcg1_1, hfg1_1⟩ := laws_FnExactWitnessFor.cs2 BKg1.out; clear hcg34_0 hfg34_0 hcg34_1 hfg34_1; obtain ⟨hcg34_0, hfg34_0, hcg34_1, hfg34_1⟩ := laws_FnExactWitnessFor.cs2 BKg34.out; clear hcg58_0 hfg58_0 hcg58_1 hfg58_1; obtain ⟨hcg58_0, hfg58_0, hcg58_1, hfg58_1⟩ := laws_FnExactWitnessFor.cs2 BKg58.out)
  | ((with_reducible refine gate_callee (f := 9) rfl ?_); refine goesL_ (some 46) rfl rfl Try.func9 (by kernel_rfl) rfl #[.slice A40 t38_0.length c41, .int .i64 a1, .agg #[.slice A47 t45_0.length c48, .slice A53 t45_1.length c54]] rfl mB ?_; refine (impl_WitnessFor.calls k _ _ t38_0 a1 _ _ t45_0 _ _ t45_1 t61_0 t61_1 t61_2 _ (Kd.S_reads' F39.out).2.2 (Kd.S_reads' F39.out).2.1 (Kd.R_reads' F46.out).2.2 (Kd.R_reads' F46.out).2.1 (Kd.R_reads' F52.out).2.2 (Kd.R_reads' F52.out).2.1 t61A.out).mono ?_; rintro e w11_ ⟨v1_, rfl, h0_, hb_⟩; refine ⟨_, rfl, ?_⟩; have Z11 := xm (hb_.size : w10_.heap.size ≤ w11_.heap.size); have hk_ := Kept.of_below hb_ (fun _ => False); obtain ⟨A63, c64, rfl⟩ := Kd.S_slice h0_; obtain ⟨P65, p1_, p2_, p3_⟩ := hideS (base := w.heap.size) h0_ (szOf (w := w) HB.out); have F62 := xm p1_; have B66 : Aside0 (∀ k_, P65 k_ → w10_.heap.size ≤ k_ ∧ k_ < w11_.heap.size) := xm p2_; have T67 := xm p3_; clear p1_ p2_ p3_; have m0_ := xm (Kd.S_kept F30.out hk_ (fun _ _ h_ => h_)); have m1_ := xm (Kd.S_kept F39.out hk_ (fun _ _ h_ => h_)); have m2_ := xm (Kd.R_kept F46.out hk_ (fun _ _ h_ => h_)); have m3_ := xm (Kd.R_kept F52.out hk_ (fun _ _ h_ => h_)); have m4_ := xm (blk_kept BKg1.out hk_ (fun h_ => h_)); have m5_ := xm (blk_kept BKg34.out hk_ (fun h_ => h_)); have m6_ := xm (blk_kept BKg58.out hk_ (fun h_ => h_)); clear F30 F39 F46 F52 BKg1 BKg34 BKg58; have F30 := m0_; have F39 := m1_; have F46 := m2_; have F52 := m3_; have BKg1 := m4_; have BKg34 := m5_; have BKg58 := m6_; clear m0_ m1_ m2_ m3_ m4_ m5_ m6_; have m0_ := xm (below_step (w := w) HB.out hb_); clear HB; have HB := m0_; clear m0_ hb_ hk_ h0_; clear hcg1_0 hfg1_0 hcg1_1 hfg1_1; obtain ⟨hcg1_0, hfg1_0, hcg1_1, hfg1_1⟩ := laws_FnExactWitnessFor.cs2 BKg1.out; clear hcg34_0 hfg34_0 hcg34_1 hfg34_1; obtain ⟨hcg34_0, hfg34_0, hcg34_1, hfg34_1⟩ := laws_FnExactWitnessFor.cs2 BKg34.out; clear hcg58_0 hfg58_0 hcg58_1 hfg58_1; obtain ⟨hcg58_0, hfg58_0, hcg58_1, hfg58_1⟩ := laws_FnExactWitnessFor.cs2 BKg58.out)
  | ((with_reducible refine gate_dst (N := 12) rfl ?_); refine box_event ?hgq69 (N := 12) ?hdq69 (cs := #[.int .i64 0, .slice none 0 0]) (t := 30) ?hrq69 ?_; (case hdq69 => rfl); (case hgq69 => rfl); (case hrq69 => exact zB); intro g68 hg_ w12_ hbox_ hb_; have Z12 := xm (hb_.size : w11_.heap.size ≤ w12_.heap.size); have hk_ := Kept.of_below hb_ (fun _ => False); have m0_ := xm (Kd.S_kept F30.out hk_ (fun _ _ h_ => h_)); have m1_ := xm (Kd.S_kept F39.out hk_ (fun _ _ h_ => h_)); have m2_ := xm (Kd.R_kept F46.out hk_ (fun _ _ h_ => h_)); have m3_ := xm (Kd.R_kept F52.out hk_ (fun _ _ h_ => h_)); have m4_ := xm (Kd.S_kept F62.out hk_ (fun _ _ h_ => h_)); have m5_ := xm (blk_kept BKg1.out hk_ (fun h_ => h_)); have m6_ := xm (blk_kept BKg34.out hk_ (fun h_ => h_)); have m7_ := xm (blk_kept BKg58.out hk_ (fun h_ => h_)); clear F30 F39 F46 F52 F62 BKg1 BKg34 BKg58; have F30 := m0_; have F39 := m1_; have F46 := m2_; have F52 := m3_; have F62 := m4_; have BKg1 := m5_; have BKg34 := m6_; have BKg58 := m7_; clear m0_ m1_ m2_ m3_ m4_ m5_ m6_ m7_; have m0_ := xm (below_step (w := w) HB.out hb_); clear HB; have HB := m0_; have BKg68 := xm hbox_; have GBg68 : Aside0 (w11_.heap.size ≤ g68 ∧ g68 < w12_.heap.size) := xm ⟨by rw [hg_]; exact Nat.le_refl _, blk_lt hbox_⟩; clear m0_ hb_ hbox_ hg_ hk_; clear hcg1_0 hfg1_0 hcg1_1 hfg1_1; obtain ⟨hcg1_0, hfg1_0, hcg1_1, hfg1_1⟩ := laws_FnExactWitnessFor.cs2 BKg1.out; clear hcg34_0 hfg34_0 hcg34_1 hfg34_1; obtain ⟨hcg34_0, hfg34_0, hcg34_1, hfg34_1⟩ := laws_FnExactWitnessFor.cs2 BKg34.out; clear hcg58_0 hfg58_0 hcg58_1 hfg58_1; obtain ⟨hcg58_0, hfg58_0, hcg58_1, hfg58_1⟩ := laws_FnExactWitnessFor.cs2 BKg58.out; obtain ⟨hcg68_0, hfg68_0, hcg68_1, hfg68_1⟩ := laws_FnExactWitnessFor.cs2 BKg68.out)
  | ((with_reducible refine gate_store (t := 30) (p := 12) rfl ?_); refine store_event (t := 30) (p := 12) (v := ?voq70) (w1 := ((w12_.setCell ⟨g68, 0, none⟩ (.int .i64 t61_0)).setCell ⟨g68, 1, none⟩ (.slice A63 t61_1.length c64))) ?hgq70 ?hoq70 ?hnq70 ?hrq70 ?_; (case hoq70 => rfl); (case hgq70 => rfl); (case hnq70 => rfl); (case hrq70 => exact zB); intro w13_ hw_; have hk_ : Kept w12_ w13_ (fun k_ => k_ = g68) := (by rw [hw_]; exact kept_box (kept_box (Kept.refl _ _) _ _) _ _); have hx_ : w13_.heap[g68]? = some (.cells #[.int .i64 t61_0, .slice A63 t61_1.length c64] 30 (0, 0)) := (by rw [hw_]; refine blk_put (cs := #[.int .i64 t61_0, .slice none 0 0]) ?_ 1 _ rfl; refine blk_put (cs := #[.int .i64 0, .slice none 0 0]) ?_ 0 _ rfl; exact BKg68.out); have Z13 := xm (hk_.1 : w12_.heap.size ≤ w13_.heap.size); have ge_ : w.heap.size ≤ g68 := (by have := GBg68.out; have := Z1.out; have := Z2.out; have := Z3.out; have := Z4.out; have := Z5.out; have := Z6.out; have := Z7.out; have := Z8.out; have := Z9.out; have := Z10.out; have := Z11.out; have := ZJ5.out; omega); have mb_ : Aside0 (Below w.heap.size w w13_) := xm (by rw [hw_]; exact xt (xt (HB.out) ge_) ge_); have hk2_ := (Kept.mono hk_ (S' := fun k_ => w11_.heap.size ≤ k_ ∧ k_ < w12_.heap.size) (fun k_ h_ => by have h_ : k_ = g68 := h_; subst h_; exact GBg68.out)); have m0_ := xm (Kd.S_kept F30.out hk2_ (fun k_ h_ h2_ => by have u1_ := B32.out k_ h_; have u2_ : w11_.heap.size ≤ k_ ∧ k_ < w12_.heap.size := h2_; have := Z6.out; have := Z7.out; have := Z8.out; have := Z9.out; have := Z10.out; have := Z11.out; have := ZJ5.out; omega)); have m1_ := xm (Kd.S_kept F39.out hk2_ (fun k_ h_ h2_ => by have u1_ := B43.out k_ h_; have u2_ : w11_.heap.size ≤ k_ ∧ k_ < w12_.heap.size := h2_; have := Z8.out; have := Z9.out; have := Z10.out; have := Z11.out; have := ZJ5.out; omega)); have m2_ := xm (Kd.R_kept F46.out hk2_ (fun k_ h_ h2_ => by have u1_ := B50.out k_ h_; have u2_ : w11_.heap.size ≤ k_ ∧ k_ < w12_.heap.size := h2_; have := Z9.out; have := Z10.out; have := Z11.out; have := ZJ5.out; omega)); have m3_ := xm (Kd.R_kept F52.out hk2_ (fun k_ h_ h2_ => by have u1_ := B56.out k_ h_; have u2_ : w11_.heap.size ≤ k_ ∧ k_ < w12_.heap.size := h2_; have := Z9.out; have := Z10.out; have := Z11.out; have := ZJ5.out; omega)); have m4_ := xm (Kd.S_kept F62.out hk2_ (fun k_ h_ h2_ => by have u1_ := B66.out k_ h_; have u2_ : w11_.heap.size ≤ k_ ∧ k_ < w12_.heap.size := h2_; have := ZJ5.out; omega)); have m5_ := xm (blk_kept BKg1.out hk2_ (fun h2_ => by have u1_ := GBg1.out; have u2_ : w11_.heap.size ≤ g1 ∧ g1 < w12_.heap.size := h2_; have := Z2.out; have := Z3.out; have := Z4.out; have := Z5.out; have := Z6.out; have := Z7.out; have := Z8.out; have := Z9.out; have := Z10.out; have := Z11.out; have := ZJ5.out; omega)); have m6_ := xm (blk_kept BKg34.out hk2_ (fun h2_ => by have u1_ := GBg34.out; have u2_ : w11_.heap.size ≤ g34 ∧ g34 < w12_.heap.size := h2_; have := Z6.out; have := Z7.out; have := Z8.out; have := Z9.out; have := Z10.out; have := Z11.out; have := ZJ5.out; omega)); have m7_ := xm (blk_kept BKg58.out hk2_ (fun h2_ => by have u1_ := GBg58.out; have u2_ : w11_.heap.size ≤ g58 ∧ g58 < w12_.heap.size := h2_; have := Z10.out; have := Z11.out; have := ZJ5.out; omega)); clear F30 F39 F46 F52 F62 BKg1 BKg34 BKg58; have F30 := m0_; have F39 := m1_; have F46 := m2_; have F52 := m3_; have F62 := m4_; have BKg1 := m5_; have BKg34 := m6_; have BKg58 := m7_; clear m0_ m1_ m2_ m3_ m4_ m5_ m6_ m7_; clear HB BKg68; have HB := mb_; have BKg68 := xm hx_; clear mb_ hx_ hk_ hk2_ hw_ ge_; clear hcg1_0 hfg1_0 hcg1_1 hfg1_1; obtain ⟨hcg1_0, hfg1_0, hcg1_1, hfg1_1⟩ := laws_FnExactWitnessFor.cs2 BKg1.out; clear hcg34_0 hfg34_0 hcg34_1 hfg34_1; obtain ⟨hcg34_0, hfg34_0, hcg34_1, hfg34_1⟩ := laws_FnExactWitnessFor.cs2 BKg34.out; clear hcg58_0 hfg58_0 hcg58_1 hfg58_1; obtain ⟨hcg58_0, hfg58_0, hcg58_1, hfg58_1⟩ := laws_FnExactWitnessFor.cs2 BKg58.out; clear hcg68_0 hfg68_0 hcg68_1 hfg68_1; obtain ⟨hcg68_0, hfg68_0, hcg68_1, hfg68_1⟩ := laws_FnExactWitnessFor.cs2 BKg68.out)
  | ((with_reducible refine gate_callee (f := 10) rfl ?_); refine goesL_ (some 51) rfl rfl Try.func10 (by kernel_rfl) rfl #[.agg #[.int .i64 t61_0, .slice A63 t61_1.length c64], .agg #[.int .i64 t27_0, .slice A28 t27_1.length c29]] rfl mB ?_; refine (laws_eqTable.calls k t61_0 _ _ t61_1 t27_0 _ _ t27_1 true _ (Kd.S_reads' F62.out).2.2 (Kd.S_reads' F62.out).2.1 (Kd.S_reads' F30.out).2.2 (Kd.S_reads' F30.out).2.1 t71A.out).mono ?_; rintro e w14_ ⟨rfl, hb_⟩; refine ⟨_, rfl, ?_⟩; have Z14 := xm (hb_.size : w13_.heap.size ≤ w14_.heap.size); have hk_ := Kept.of_below hb_ (fun _ => False); have m0_ := xm (Kd.S_kept F30.out hk_ (fun _ _ h_ => h_)); have m1_ := xm (Kd.S_kept F39.out hk_ (fun _ _ h_ => h_)); have m2_ := xm (Kd.R_kept F46.out hk_ (fun _ _ h_ => h_)); have m3_ := xm (Kd.R_kept F52.out hk_ (fun _ _ h_ => h_)); have m4_ := xm (Kd.S_kept F62.out hk_ (fun _ _ h_ => h_)); have m5_ := xm (blk_kept BKg1.out hk_ (fun h_ => h_)); have m6_ := xm (blk_kept BKg34.out hk_ (fun h_ => h_)); have m7_ := xm (blk_kept BKg58.out hk_ (fun h_ => h_)); have m8_ := xm (blk_kept BKg68.out hk_ (fun h_ => h_)); clear F30 F39 F46 F52 F62 BKg1 BKg34 BKg58 BKg68; have F30 := m0_; have F39 := m1_; have F46 := m2_; have F52 := m3_; have F62 := m4_; have BKg1 := m5_; have BKg34 := m6_; have BKg58 := m7_; have BKg68 := m8_; clear m0_ m1_ m2_ m3_ m4_ m5_ m6_ m7_ m8_; have m0_ := xm (below_step (w := w) HB.out hb_); clear HB; have HB := m0_; clear m0_ hb_ hk_; clear hcg1_0 hfg1_0 hcg1_1 hfg1_1; obtain ⟨hcg1_0, hfg1_0, hcg1_1, hfg1_1⟩ := laws_FnExactWitnessFor.cs2 BKg1.out; clear hcg34_0 hfg34_0 hcg34_1 hfg34_1; obtain ⟨hcg34_0, hfg34_0, hcg34_1, hfg34_1⟩ := laws_FnExactWitnessFor.cs2 BKg34.out; clear hcg58_0 hfg58_0 hcg58_1 hfg58_1; obtain ⟨hcg58_0, hfg58_0, hcg58_1, hfg58_1⟩ := laws_FnExactWitnessFor.cs2 BKg58.out; clear hcg68_0 hfg68_0 hcg68_1 hfg68_1; obtain ⟨hcg68_0, hfg68_0, hcg68_1, hfg68_1⟩ := laws_FnExactWitnessFor.cs2 BKg68.out)
  | ((with_reducible refine gate_callee (f := 7) rfl ?_); refine goesL_ (some 60) rfl rfl Try.func7 (by kernel_rfl) rfl #[.slice A0 l0.length c0] rfl mB ?_; refine (laws_toDependS.calls k _ _ l0 t74_0 _ (Kd.C_below HR0.out HB.out) HC0.out t74A.out).mono ?_; rintro e w15_ ⟨v0_, rfl, h0_, hb_⟩; refine ⟨_, rfl, ?_⟩; have Z15 := xm (hb_.size : w14_.heap.size ≤ w15_.heap.size); have hk_ := Kept.of_below hb_ (fun _ => False); obtain ⟨A76, c77, rfl⟩ := Kd.S_slice h0_; obtain ⟨P78, p1_, p2_, p3_⟩ := hideS (base := w.heap.size) h0_ (szOf (w := w) HB.out); have F75 := xm p1_; have B79 : Aside0 (∀ k_, P78 k_ → w14_.heap.size ≤ k_ ∧ k_ < w15_.heap.size) := xm p2_; have T80 := xm p3_; clear p1_ p2_ p3_; have m0_ := xm (Kd.S_kept F30.out hk_ (fun _ _ h_ => h_)); have m1_ := xm (Kd.S_kept F39.out hk_ (fun _ _ h_ => h_)); have m2_ := xm (Kd.R_kept F46.out hk_ (fun _ _ h_ => h_)); have m3_ := xm (Kd.R_kept F52.out hk_ (fun _ _ h_ => h_)); have m4_ := xm (Kd.S_kept F62.out hk_ (fun _ _ h_ => h_)); have m5_ := xm (blk_kept BKg1.out hk_ (fun h_ => h_)); have m6_ := xm (blk_kept BKg34.out hk_ (fun h_ => h_)); have m7_ := xm (blk_kept BKg58.out hk_ (fun h_ => h_)); have m8_ := xm (blk_kept BKg68.out hk_ (fun h_ => h_)); clear F30 F39 F46 F52 F62 BKg1 BKg34 BKg58 BKg68; have F30 := m0_; have F39 := m1_; have F46 := m2_; have F52 := m3_; have F62 := m4_; have BKg1 := m5_; have BKg34 := m6_; have BKg58 := m7_; have BKg68 := m8_; clear m0_ m1_ m2_ m3_ m4_ m5_ m6_ m7_ m8_; have m0_ := xm (below_step (w := w) HB.out hb_); clear HB; have HB := m0_; clear m0_ hb_ hk_ h0_; clear hcg1_0 hfg1_0 hcg1_1 hfg1_1; obtain ⟨hcg1_0, hfg1_0, hcg1_1, hfg1_1⟩ := laws_FnExactWitnessFor.cs2 BKg1.out; clear hcg34_0 hfg34_0 hcg34_1 hfg34_1; obtain ⟨hcg34_0, hfg34_0, hcg34_1, hfg34_1⟩ := laws_FnExactWitnessFor.cs2 BKg34.out; clear hcg58_0 hfg58_0 hcg58_1 hfg58_1; obtain ⟨hcg58_0, hfg58_0, hcg58_1, hfg58_1⟩ := laws_FnExactWitnessFor.cs2 BKg58.out; clear hcg68_0 hfg68_0 hcg68_1 hfg68_1; obtain ⟨hcg68_0, hfg68_0, hcg68_1, hfg68_1⟩ := laws_FnExactWitnessFor.cs2 BKg68.out)
  | ((with_reducible refine gate_callee (f := 11) rfl ?_); refine goesL_ (some 61) rfl rfl Try.func11 (by kernel_rfl) rfl #[.slice A40 t38_0.length c41, .slice A76 t74_0.length c77] rfl mB ?_; refine (laws_eqDependS.calls k _ _ t38_0 _ _ t74_0 true _ (Kd.S_reads' F39.out).2.2 (Kd.S_reads' F39.out).2.1 (Kd.S_reads' F75.out).2.2 (Kd.S_reads' F75.out).2.1 t81A.out).mono ?_; rintro e w16_ ⟨rfl, hb_⟩; refine ⟨_, rfl, ?_⟩; have Z16 := xm (hb_.size : w15_.heap.size ≤ w16_.heap.size); have hk_ := Kept.of_below hb_ (fun _ => False); have m0_ := xm (Kd.S_kept F30.out hk_ (fun _ _ h_ => h_)); have m1_ := xm (Kd.S_kept F39.out hk_ (fun _ _ h_ => h_)); have m2_ := xm (Kd.R_kept F46.out hk_ (fun _ _ h_ => h_)); have m3_ := xm (Kd.R_kept F52.out hk_ (fun _ _ h_ => h_)); have m4_ := xm (Kd.S_kept F62.out hk_ (fun _ _ h_ => h_)); have m5_ := xm (Kd.S_kept F75.out hk_ (fun _ _ h_ => h_)); have m6_ := xm (blk_kept BKg1.out hk_ (fun h_ => h_)); have m7_ := xm (blk_kept BKg34.out hk_ (fun h_ => h_)); have m8_ := xm (blk_kept BKg58.out hk_ (fun h_ => h_)); have m9_ := xm (blk_kept BKg68.out hk_ (fun h_ => h_)); clear F30 F39 F46 F52 F62 F75 BKg1 BKg34 BKg58 BKg68; have F30 := m0_; have F39 := m1_; have F46 := m2_; have F52 := m3_; have F62 := m4_; have F75 := m5_; have BKg1 := m6_; have BKg34 := m7_; have BKg58 := m8_; have BKg68 := m9_; clear m0_ m1_ m2_ m3_ m4_ m5_ m6_ m7_ m8_ m9_; have m0_ := xm (below_step (w := w) HB.out hb_); clear HB; have HB := m0_; clear m0_ hb_ hk_; clear hcg1_0 hfg1_0 hcg1_1 hfg1_1; obtain ⟨hcg1_0, hfg1_0, hcg1_1, hfg1_1⟩ := laws_FnExactWitnessFor.cs2 BKg1.out; clear hcg34_0 hfg34_0 hcg34_1 hfg34_1; obtain ⟨hcg34_0, hfg34_0, hcg34_1, hfg34_1⟩ := laws_FnExactWitnessFor.cs2 BKg34.out; clear hcg58_0 hfg58_0 hcg58_1 hfg58_1; obtain ⟨hcg58_0, hfg58_0, hcg58_1, hfg58_1⟩ := laws_FnExactWitnessFor.cs2 BKg58.out; clear hcg68_0 hfg68_0 hcg68_1 hfg68_1; obtain ⟨hcg68_0, hfg68_0, hcg68_1, hfg68_1⟩ := laws_FnExactWitnessFor.cs2 BKg68.out))
 have hk_ := Kept.drew (Kept.refl w16_ (fun _ => False))
 have m0_ := xm (Kd.S_kept F30.out hk_ (fun _ _ h_ => h_))
 have m1_ := xm (Kd.S_kept F39.out hk_ (fun _ _ h_ => h_))
 have m2_ := xm (Kd.R_kept F46.out hk_ (fun _ _ h_ => h_))
 have m3_ := xm (Kd.R_kept F52.out hk_ (fun _ _ h_ => h_))
 have m4_ := xm (Kd.S_kept F62.out hk_ (fun _ _ h_ => h_))
 have m5_ := xm (Kd.S_kept F75.out hk_ (fun _ _ h_ => h_))
 have m6_ := xm (blk_kept BKg1.out hk_ (fun h_ => h_))
 have m7_ := xm (blk_kept BKg34.out hk_ (fun h_ => h_))
 have m8_ := xm (blk_kept BKg58.out hk_ (fun h_ => h_))
 have m9_ := xm (blk_kept BKg68.out hk_ (fun h_ => h_))
 clear F30 F39 F46 F52 F62 F75 BKg1 BKg34 BKg58 BKg68
 have F30 := m0_
 have F39 := m1_
 have F46 := m2_
 have F52 := m3_
 have F62 := m4_
 have F75 := m5_
 have BKg1 := m6_
 have BKg34 := m7_
 have BKg58 := m8_
 have BKg68 := m9_
 clear m0_ m1_ m2_ m3_ m4_ m5_ m6_ m7_ m8_ m9_
 have m0_ := xm (xd HB.out)
 clear HB hk_
 have HB := m0_
 clear m0_
 have Z17 : Aside0 (w16_.heap.size ≤ w16_.drew.heap.size) := xm (Nat.le_refl _)
 refine start_ (n := 5) (S := fun w' => w'.cell? ⟨g58, 0, none⟩ = some (.slice A47 t45_0.length c48) ∧ w'.cell? ⟨g58, 1, none⟩ = some (.slice A53 t45_1.length c54) ∧ w'.cell? ⟨g1, 0, none⟩ = some (.slice A2_0 l2_0.length c2_0) ∧ w'.cell? ⟨g1, 1, none⟩ = some (.slice A2_1 l2_1.length c2_1)) (ds := []) #[false, false, false, false, false] (by kernel_rfl) rfl rfl ⟨(xc BKg58.out 0).trans rfl, (xc BKg58.out 1).trans rfl, (xc BKg1.out 0).trans rfl, (xc BKg1.out 1).trans rfl⟩ (fun hHeld => ?_)
 generalize w16_.drew = w17_ at F30 F39 F46 F52 F62 F75 BKg1 BKg34 BKg58 BKg68 Z17 HB hHeld ⊢
 refine tx 0 5 1 rfl rfl (by kernel_rfl) hHeld (by rintro w' ⟨s0, s1, s2, s3⟩; go_simp; with_reducible rfl) ?_
 refine tx 1 5 3 rfl rfl (by kernel_rfl) hHeld (by rintro w' ⟨s0, s1, s2, s3⟩; go_simp; with_reducible rfl) ?_
 refine one_ (i := 2) (N := some 65) #[true, true, true, false, false] rfl rfl (by kernel_rfl) (by decide) (fun K hK => ?_)
 refine goes_ Try.func8 (by kernel_rfl) rfl #[.agg #[.slice A2_0 l2_0.length c2_0, .slice A2_1 l2_1.length c2_1]] (by rfl) rfl rfl mB ?_
 refine (laws_toDepend.calls k _ _ l2_0 _ _ l2_1 t83_0 t83_1 _ (Kd.C_below HR2_0.out HB.out) HC2_0.out (Kd.C_below HR2_1.out HB.out) HC2_1.out t83A.out).mono ?_
 rintro e w18_ ⟨v0_, v1_, rfl, h0_, h1_, hb_⟩
 refine ⟨_, rfl, ?_⟩
 have Z18 := xm (hb_.size : w17_.heap.size ≤ w18_.heap.size)
 have hk_ := Kept.of_below hb_ (fun _ => False)
 obtain ⟨A85, c86, rfl⟩ := Kd.R_slice h0_
 obtain ⟨A91, c92, rfl⟩ := Kd.R_slice h1_
 obtain ⟨P87, p1_, p2_, p3_⟩ := hideT (base := w.heap.size) rfl h0_ (szOf (w := w) HB.out)
 have F84 := xm p1_
 have B88 : Aside0 (∀ k_, P87 k_ → w17_.heap.size ≤ k_ ∧ k_ < w18_.heap.size) := xm p2_
 have T89 := xm p3_
 clear p1_ p2_ p3_
 obtain ⟨P93, p1_, p2_, p3_⟩ := hideT (base := w.heap.size) rfl h1_ (szOf (w := w) HB.out)
 have F90 := xm p1_
 have B94 : Aside0 (∀ k_, P93 k_ → w17_.heap.size ≤ k_ ∧ k_ < w18_.heap.size) := xm p2_
 have T95 := xm p3_
 clear p1_ p2_ p3_
 have m0_ := xm (Kd.S_kept F30.out hk_ (fun _ _ h_ => h_))
 have m1_ := xm (Kd.S_kept F39.out hk_ (fun _ _ h_ => h_))
 have m2_ := xm (Kd.R_kept F46.out hk_ (fun _ _ h_ => h_))
 have m3_ := xm (Kd.R_kept F52.out hk_ (fun _ _ h_ => h_))
 have m4_ := xm (Kd.S_kept F62.out hk_ (fun _ _ h_ => h_))
 have m5_ := xm (Kd.S_kept F75.out hk_ (fun _ _ h_ => h_))
 have m6_ := xm (blk_kept BKg1.out hk_ (fun h_ => h_))
 have m7_ := xm (blk_kept BKg34.out hk_ (fun h_ => h_))
 have m8_ := xm (blk_kept BKg58.out hk_ (fun h_ => h_))
 have m9_ := xm (blk_kept BKg68.out hk_ (fun h_ => h_))
 clear F30 F39 F46 F52 F62 F75 BKg1 BKg34 BKg58 BKg68
 have F30 := m0_
 have F39 := m1_
 have F46 := m2_
 have F52 := m3_
 have F62 := m4_
 have F75 := m5_
 have BKg1 := m6_
 have BKg34 := m7_
 have BKg58 := m8_
 have BKg68 := m9_
 clear m0_ m1_ m2_ m3_ m4_ m5_ m6_ m7_ m8_ m9_
 have m0_ := xm (below_step (w := w) HB.out hb_)
 clear HB
 have HB := m0_
 clear m0_ hb_ hk_ h0_ h1_
 refine hK.out _ _ ⟨(xc BKg58.out 0).trans rfl, (xc BKg58.out 1).trans rfl, (xc BKg1.out 0).trans rfl, (xc BKg1.out 1).trans rfl⟩ (fun hHeld => nC ?_)
 clear hK K
 refine one_ (i := 3) (N := some 66) #[true, true, true, true, false] rfl rfl (by kernel_rfl) (by decide) (fun K hK => ?_)
 refine goes_ Try.func12 (by kernel_rfl) rfl #[.agg #[.slice A47 t45_0.length c48, .slice A53 t45_1.length c54], .agg #[.slice A85 t83_0.length c86, .slice A91 t83_1.length c92]] (by rfl) rfl rfl mB ?_
 refine (laws_eqDepend.calls k _ _ t45_0 _ _ t45_1 _ _ t83_0 _ _ t83_1 true _ (Kd.R_reads' F46.out).2.2 (Kd.R_reads' F46.out).2.1 (Kd.R_reads' F52.out).2.2 (Kd.R_reads' F52.out).2.1 (Kd.R_reads' F84.out).2.2 (Kd.R_reads' F84.out).2.1 (Kd.R_reads' F90.out).2.2 (Kd.R_reads' F90.out).2.1 t96A.out).mono ?_
 rintro e w19_ ⟨rfl, hb_⟩
 refine ⟨_, rfl, ?_⟩
 have Z19 := xm (hb_.size : w18_.heap.size ≤ w19_.heap.size)
 have hk_ := Kept.of_below hb_ (fun _ => False)
 have m0_ := xm (Kd.S_kept F30.out hk_ (fun _ _ h_ => h_))
 have m1_ := xm (Kd.S_kept F39.out hk_ (fun _ _ h_ => h_))
 have m2_ := xm (Kd.R_kept F46.out hk_ (fun _ _ h_ => h_))
 have m3_ := xm (Kd.R_kept F52.out hk_ (fun _ _ h_ => h_))
 have m4_ := xm (Kd.S_kept F62.out hk_ (fun _ _ h_ => h_))
 have m5_ := xm (Kd.S_kept F75.out hk_ (fun _ _ h_ => h_))
 have m6_ := xm (Kd.R_kept F84.out hk_ (fun _ _ h_ => h_))
 have m7_ := xm (Kd.R_kept F90.out hk_ (fun _ _ h_ => h_))
 have m8_ := xm (blk_kept BKg1.out hk_ (fun h_ => h_))
 have m9_ := xm (blk_kept BKg34.out hk_ (fun h_ => h_))
 have m10_ := xm (blk_kept BKg58.out hk_ (fun h_ => h_))
 have m11_ := xm (blk_kept BKg68.out hk_ (fun h_ => h_))
 clear F30 F39 F46 F52 F62 F75 F84 F90 BKg1 BKg34 BKg58 BKg68
 have F30 := m0_
 have F39 := m1_
 have F46 := m2_
 have F52 := m3_
 have F62 := m4_
 have F75 := m5_
 have F84 := m6_
 have F90 := m7_
 have BKg1 := m8_
 have BKg34 := m9_
 have BKg58 := m10_
 have BKg68 := m11_
 clear m0_ m1_ m2_ m3_ m4_ m5_ m6_ m7_ m8_ m9_ m10_ m11_
 have m0_ := xm (below_step (w := w) HB.out hb_)
 clear HB
 have HB := m0_
 clear m0_ hb_ hk_
 refine hK.out _ _ ⟨(xc BKg58.out 0).trans rfl, (xc BKg58.out 1).trans rfl, (xc BKg1.out 0).trans rfl, (xc BKg1.out 1).trans rfl⟩ (fun hHeld => nC ?_)
 clear hK K
 refine px 4 5 31 (by kernel_rfl) ?_
 refine done_ (by kernel_rfl) ?_
 clear hcg1_0 hfg1_0 hcg1_1 hfg1_1
 obtain ⟨hcg1_0, hfg1_0, hcg1_1, hfg1_1⟩ := laws_FnExactWitnessFor.cs2 BKg1.out
 clear hcg34_0 hfg34_0 hcg34_1 hfg34_1
 obtain ⟨hcg34_0, hfg34_0, hcg34_1, hfg34_1⟩ := laws_FnExactWitnessFor.cs2 BKg34.out
 clear hcg58_0 hfg58_0 hcg58_1 hfg58_1
 obtain ⟨hcg58_0, hfg58_0, hcg58_1, hfg58_1⟩ := laws_FnExactWitnessFor.cs2 BKg58.out
 clear hcg68_0 hfg68_0 hcg68_1 hfg68_1
 obtain ⟨hcg68_0, hfg68_0, hcg68_1, hfg68_1⟩ := laws_FnExactWitnessFor.cs2 BKg68.out
 go_wp2_with (first
  | ((with_reducible refine gate_callee (f := 13) rfl ?_); refine goesL_ (some 70) rfl rfl Try.func13 (by kernel_rfl) rfl #[.slice A40 t38_0.length c41, .int .i64 1] rfl mB ?_; refine (laws_markDependS.calls k P42 (.slice A40 t38_0.length c41) t38_0 1 t98_0 t98_1 w _ HB.out F39.out t98A.out).mono ?_; rintro e w20_ ⟨rfl, h0_, hb_, hkp_⟩; refine ⟨_, rfl, ?_⟩; have Z20 := xm (hkp_.1 : w19_.heap.size ≤ w20_.heap.size); have hk2_ := Kept.mono hkp_ (S' := fun k_ => w6_.heap.size ≤ k_ ∧ k_ < w7_.heap.size) (fun k_ h_ => by exact B43.out k_ h_); have yF39 := xm h0_; have m0_ := xm (Kd.S_kept F30.out hk2_ (fun k_ h_ h2_ => by have u1_ := B32.out k_ h_; have u2_ : w6_.heap.size ≤ k_ ∧ k_ < w7_.heap.size := h2_; have := Z6.out; have := ZJ5.out; omega)); have m1_ := xm (Kd.R_kept F46.out hk2_ (fun k_ h_ h2_ => by have u1_ := B50.out k_ h_; have u2_ : w6_.heap.size ≤ k_ ∧ k_ < w7_.heap.size := h2_; have := ZJ5.out; omega)); have m2_ := xm (Kd.R_kept F52.out hk2_ (fun k_ h_ h2_ => by have u1_ := B56.out k_ h_; have u2_ : w6_.heap.size ≤ k_ ∧ k_ < w7_.heap.size := h2_; have := ZJ5.out; omega)); have m3_ := xm (Kd.S_kept F62.out hk2_ (fun k_ h_ h2_ => by have u1_ := B66.out k_ h_; have u2_ : w6_.heap.size ≤ k_ ∧ k_ < w7_.heap.size := h2_; have := Z8.out; have := Z9.out; have := Z10.out; have := ZJ5.out; omega)); have m4_ := xm (Kd.S_kept F75.out hk2_ (fun k_ h_ h2_ => by have u1_ := B79.out k_ h_; have u2_ : w6_.heap.size ≤ k_ ∧ k_ < w7_.heap.size := h2_; have := Z8.out; have := Z9.out; have := Z10.out; have := Z11.out; have := Z12.out; have := Z13.out; have := Z14.out; have := ZJ5.out; omega)); have m5_ := xm (Kd.R_kept F84.out hk2_ (fun k_ h_ h2_ => by have u1_ := B88.out k_ h_; have u2_ : w6_.heap.size ≤ k_ ∧ k_ < w7_.heap.size := h2_; have := Z8.out; have := Z9.out; have := Z10.out; have := Z11.out; have := Z12.out; have := Z13.out; have := Z14.out; have := Z15.out; have := Z16.out; have := Z17.out; have := ZJ5.out; omega)); have m6_ := xm (Kd.R_kept F90.out hk2_ (fun k_ h_ h2_ => by have u1_ := B94.out k_ h_; have u2_ : w6_.heap.size ≤ k_ ∧ k_ < w7_.heap.size := h2_; have := Z8.out; have := Z9.out; have := Z10.out; have := Z11.out; have := Z12.out; have := Z13.out; have := Z14.out; have := Z15.out; have := Z16.out; have := Z17.out; have := ZJ5.out; omega)); have m7_ := xm (blk_kept BKg1.out hk2_ (fun h2_ => by have u1_ := GBg1.out; have u2_ : w6_.heap.size ≤ g1 ∧ g1 < w7_.heap.size := h2_; have := Z2.out; have := Z3.out; have := Z4.out; have := Z5.out; have := Z6.out; have := ZJ5.out; omega)); have m8_ := xm (blk_kept BKg34.out hk2_ (fun h2_ => by have u1_ := GBg34.out; have u2_ : w6_.heap.size ≤ g34 ∧ g34 < w7_.heap.size := h2_; have := Z6.out; have := ZJ5.out; omega)); have m9_ := xm (blk_kept BKg58.out hk2_ (fun h2_ => by have u1_ := GBg58.out; have u2_ : w6_.heap.size ≤ g58 ∧ g58 < w7_.heap.size := h2_; have := Z8.out; have := ZJ5.out; omega)); have m10_ := xm (blk_kept BKg68.out hk2_ (fun h2_ => by have u1_ := GBg68.out; have u2_ : w6_.heap.size ≤ g68 ∧ g68 < w7_.heap.size := h2_; have := Z8.out; have := Z9.out; have := Z10.out; have := Z11.out; have := ZJ5.out; omega)); clear F30 F46 F52 F62 F75 F84 F90 BKg1 BKg34 BKg58 BKg68; have F30 := m0_; have F46 := m1_; have F52 := m2_; have F62 := m3_; have F75 := m4_; have F84 := m5_; have F90 := m6_; have BKg1 := m7_; have BKg34 := m8_; have BKg58 := m9_; have BKg68 := m10_; clear m0_ m1_ m2_ m3_ m4_ m5_ m6_ m7_ m8_ m9_ m10_; clear F39; have F39 := yF39; clear yF39; clear HB; have HB := xm hb_; clear hb_ hkp_ hk2_ h0_; (try clear LEF39); have LEF39 := xm (Kd.S_reads' F39.out).1; clear hcg1_0 hfg1_0 hcg1_1 hfg1_1; obtain ⟨hcg1_0, hfg1_0, hcg1_1, hfg1_1⟩ := laws_FnExactWitnessFor.cs2 BKg1.out; clear hcg34_0 hfg34_0 hcg34_1 hfg34_1; obtain ⟨hcg34_0, hfg34_0, hcg34_1, hfg34_1⟩ := laws_FnExactWitnessFor.cs2 BKg34.out; clear hcg58_0 hfg58_0 hcg58_1 hfg58_1; obtain ⟨hcg58_0, hfg58_0, hcg58_1, hfg58_1⟩ := laws_FnExactWitnessFor.cs2 BKg58.out; clear hcg68_0 hfg68_0 hcg68_1 hfg68_1; obtain ⟨hcg68_0, hfg68_0, hcg68_1, hfg68_1⟩ := laws_FnExactWitnessFor.cs2 BKg68.out)
  | ((with_reducible refine gate_callee (f := 14) rfl ?_); refine goesL_ (some 73) rfl rfl Try.func14 (by kernel_rfl) rfl #[.agg #[.slice A47 t45_0.length c48, .slice A53 t45_1.length c54], .int .i64 t98_0] rfl mB ?_; refine (laws_markDepend.calls k P49 (.slice A47 t45_0.length c48) t45_0 P55 (.slice A53 t45_1.length c54) t45_1 t98_0 t99_0 t99_1 t99_2 w _ HB.out F46.out (fun k_ h_ h2_ => absurd (T51.out k_ h_).1 (by have z_ := (T57.out k_ h2_).2; first | exact z_ | exact z_.1 | exact z_.2 | exact z_.2.1 | exact z_.2.2 | exact z_.2.2.1 | exact z_.2.2.2 | exact z_.2.2.2.1 | exact z_.2.2.2.2 | exact z_.2.2.2.2.1 | exact z_.2.2.2.2.2 | exact z_.2.2.2.2.2.1 | exact z_.2.2.2.2.2.2)) F52.out (fun k_ h_ h2_ => absurd (T57.out k_ h_).1 (by have z_ := (T51.out k_ h2_).2; first | exact z_ | exact z_.1 | exact z_.2 | exact z_.2.1 | exact z_.2.2 | exact z_.2.2.1 | exact z_.2.2.2 | exact z_.2.2.2.1 | exact z_.2.2.2.2 | exact z_.2.2.2.2.1 | exact z_.2.2.2.2.2 | exact z_.2.2.2.2.2.1 | exact z_.2.2.2.2.2.2)) t99A.out).mono ?_; rintro e w21_ ⟨rfl, h0_, h1_, hb_, hkp_⟩; refine ⟨_, rfl, ?_⟩; have Z21 := xm (hkp_.1 : w20_.heap.size ≤ w21_.heap.size); have hk2_ := Kept.mono hkp_ (S' := fun k_ => w7_.heap.size ≤ k_ ∧ k_ < w8_.heap.size) (fun k_ h_ => by rcases h_ with h_ | h_ <;> first | exact B50.out k_ h_ | exact B56.out k_ h_); have yF46 := xm (Kd.R_reok rfl h0_ (fun k_ e_ => F46.out.1 k_ e_)); have yF52 := xm (Kd.R_reok rfl h1_ (fun k_ e_ => F52.out.1 k_ e_)); have m0_ := xm (Kd.S_kept F30.out hk2_ (fun k_ h_ h2_ => by have u1_ := B32.out k_ h_; have u2_ : w7_.heap.size ≤ k_ ∧ k_ < w8_.heap.size := h2_; have := Z6.out; have := Z7.out; have := ZJ5.out; omega)); have m1_ := xm (Kd.S_kept F39.out hk2_ (fun k_ h_ h2_ => by have u1_ := B43.out k_ h_; have u2_ : w7_.heap.size ≤ k_ ∧ k_ < w8_.heap.size := h2_; have := ZJ5.out; omega)); have m2_ := xm (Kd.S_kept F62.out hk2_ (fun k_ h_ h2_ => by have u1_ := B66.out k_ h_; have u2_ : w7_.heap.size ≤ k_ ∧ k_ < w8_.heap.size := h2_; have := Z9.out; have := Z10.out; have := ZJ5.out; omega)); have m3_ := xm (Kd.S_kept F75.out hk2_ (fun k_ h_ h2_ => by have u1_ := B79.out k_ h_; have u2_ : w7_.heap.size ≤ k_ ∧ k_ < w8_.heap.size := h2_; have := Z9.out; have := Z10.out; have := Z11.out; have := Z12.out; have := Z13.out; have := Z14.out; have := ZJ5.out; omega)); have m4_ := xm (Kd.R_kept F84.out hk2_ (fun k_ h_ h2_ => by have u1_ := B88.out k_ h_; have u2_ : w7_.heap.size ≤ k_ ∧ k_ < w8_.heap.size := h2_; have := Z9.out; have := Z10.out; have := Z11.out; have := Z12.out; have := Z13.out; have := Z14.out; have := Z15.out; have := Z16.out; have := Z17.out; have := ZJ5.out; omega)); have m5_ := xm (Kd.R_kept F90.out hk2_ (fun k_ h_ h2_ => by have u1_ := B94.out k_ h_; have u2_ : w7_.heap.size ≤ k_ ∧ k_ < w8_.heap.size := h2_; have := Z9.out; have := Z10.out; have := Z11.out; have := Z12.out; have := Z13.out; have := Z14.out; have := Z15.out; have := Z16.out; have := Z17.out; have := ZJ5.out; omega)); have m6_ := xm (blk_kept BKg1.out hk2_ (fun h2_ => by have u1_ := GBg1.out; have u2_ : w7_.heap.size ≤ g1 ∧ g1 < w8_.heap.size := h2_; have := Z2.out; have := Z3.out; have := Z4.out; have := Z5.out; have := Z6.out; have := Z7.out; have := ZJ5.out; omega)); have m7_ := xm (blk_kept BKg34.out hk2_ (fun h2_ => by have u1_ := GBg34.out; have u2_ : w7_.heap.size ≤ g34 ∧ g34 < w8_.heap.size := h2_; have := Z6.out; have := Z7.out; have := ZJ5.out; omega)); have m8_ := xm (blk_kept BKg58.out hk2_ (fun h2_ => by have u1_ := GBg58.out; have u2_ : w7_.heap.size ≤ g58 ∧ g58 < w8_.heap.size := h2_; have := ZJ5.out; omega)); have m9_ := xm (blk_kept BKg68.out hk2_ (fun h2_ => by have u1_ := GBg68.out; have u2_ : w7_.heap.size ≤ g68 ∧ g68 < w8_.heap.size := h2_; have := Z9.out; have := Z10.out; have := Z11.out; have := ZJ5.out; omega)); clear F30 F39 F62 F75 F84 F90 BKg1 BKg34 BKg58 BKg68; have F30 := m0_; have F39 := m1_; have F62 := m2_; have F75 := m3_; have F84 := m4_; have F90 := m5_; have BKg1 := m6_; have BKg34 := m7_; have BKg58 := m8_; have BKg68 := m9_; clear m0_ m1_ m2_ m3_ m4_ m5_ m6_ m7_ m8_ m9_; clear F46 F52; have F46 := yF46; have F52 := yF52; clear yF46 yF52; clear HB; have HB := xm hb_; clear hb_ hkp_ hk2_ h0_ h1_; (try clear LEF46); have LEF46 := xm (Kd.R_reads' F46.out).1; (try clear LEF52); have LEF52 := xm (Kd.R_reads' F52.out).1; clear hcg1_0 hfg1_0 hcg1_1 hfg1_1; obtain ⟨hcg1_0, hfg1_0, hcg1_1, hfg1_1⟩ := laws_FnExactWitnessFor.cs2 BKg1.out; clear hcg34_0 hfg34_0 hcg34_1 hfg34_1; obtain ⟨hcg34_0, hfg34_0, hcg34_1, hfg34_1⟩ := laws_FnExactWitnessFor.cs2 BKg34.out; clear hcg58_0 hfg58_0 hcg58_1 hfg58_1; obtain ⟨hcg58_0, hfg58_0, hcg58_1, hfg58_1⟩ := laws_FnExactWitnessFor.cs2 BKg58.out; clear hcg68_0 hfg68_0 hcg68_1 hfg68_1; obtain ⟨hcg68_0, hfg68_0, hcg68_1, hfg68_1⟩ := laws_FnExactWitnessFor.cs2 BKg68.out)
  | ((with_reducible refine gate_callee (f := 15) rfl ?_); refine goesL_ (some 89) rfl rfl Try.func15 (by kernel_rfl) rfl #[.agg #[.int .i64 t61_0, .slice A63 t61_1.length c64], .int .i64 1] rfl mB ?_; refine (laws_markTable.calls k t61_0 P65 (.slice A63 t61_1.length c64) t61_1 1 t104_0 t104_1 w _ HB.out F62.out t104A.out).mono ?_; rintro e w23_ ⟨rfl, h0_, hb_, hkp_⟩; refine ⟨_, rfl, ?_⟩; have Z23 := xm (hkp_.1 : w22_.heap.size ≤ w23_.heap.size); have hk2_ := Kept.mono hkp_ (S' := fun k_ => w10_.heap.size ≤ k_ ∧ k_ < w11_.heap.size) (fun k_ h_ => by exact B66.out k_ h_); have yF62 := xm h0_; have m0_ := xm (Kd.S_kept F30.out hk2_ (fun k_ h_ h2_ => by have u1_ := B32.out k_ h_; have u2_ : w10_.heap.size ≤ k_ ∧ k_ < w11_.heap.size := h2_; have := Z6.out; have := Z7.out; have := Z8.out; have := Z9.out; have := Z10.out; have := ZJ5.out; omega)); have m1_ := xm (Kd.S_kept F39.out hk2_ (fun k_ h_ h2_ => by have u1_ := B43.out k_ h_; have u2_ : w10_.heap.size ≤ k_ ∧ k_ < w11_.heap.size := h2_; have := Z8.out; have := Z9.out; have := Z10.out; have := ZJ5.out; omega)); have m2_ := xm (Kd.R_kept F46.out hk2_ (fun k_ h_ h2_ => by have u1_ := B50.out k_ h_; have u2_ : w10_.heap.size ≤ k_ ∧ k_ < w11_.heap.size := h2_; have := Z9.out; have := Z10.out; have := ZJ5.out; omega)); have m3_ := xm (Kd.R_kept F52.out hk2_ (fun k_ h_ h2_ => by have u1_ := B56.out k_ h_; have u2_ : w10_.heap.size ≤ k_ ∧ k_ < w11_.heap.size := h2_; have := Z9.out; have := Z10.out; have := ZJ5.out; omega)); have m4_ := xm (Kd.S_kept F75.out hk2_ (fun k_ h_ h2_ => by have u1_ := B79.out k_ h_; have u2_ : w10_.heap.size ≤ k_ ∧ k_ < w11_.heap.size := h2_; have := Z12.out; have := Z13.out; have := Z14.out; have := ZJ5.out; omega)); have m5_ := xm (Kd.R_kept F84.out hk2_ (fun k_ h_ h2_ => by have u1_ := B88.out k_ h_; have u2_ : w10_.heap.size ≤ k_ ∧ k_ < w11_.heap.size := h2_; have := Z12.out; have := Z13.out; have := Z14.out; have := Z15.out; have := Z16.out; have := Z17.out; have := ZJ5.out; omega)); have m6_ := xm (Kd.R_kept F90.out hk2_ (fun k_ h_ h2_ => by have u1_ := B94.out k_ h_; have u2_ : w10_.heap.size ≤ k_ ∧ k_ < w11_.heap.size := h2_; have := Z12.out; have := Z13.out; have := Z14.out; have := Z15.out; have := Z16.out; have := Z17.out; have := ZJ5.out; omega)); have m7_ := xm (blk_kept BKg1.out hk2_ (fun h2_ => by have u1_ := GBg1.out; have u2_ : w10_.heap.size ≤ g1 ∧ g1 < w11_.heap.size := h2_; have := Z2.out; have := Z3.out; have := Z4.out; have := Z5.out; have := Z6.out; have := Z7.out; have := Z8.out; have := Z9.out; have := Z10.out; have := ZJ5.out; omega)); have m8_ := xm (blk_kept BKg34.out hk2_ (fun h2_ => by have u1_ := GBg34.out; have u2_ : w10_.heap.size ≤ g34 ∧ g34 < w11_.heap.size := h2_; have := Z6.out; have := Z7.out; have := Z8.out; have := Z9.out; have := Z10.out; have := ZJ5.out; omega)); have m9_ := xm (blk_kept BKg58.out hk2_ (fun h2_ => by have u1_ := GBg58.out; have u2_ : w10_.heap.size ≤ g58 ∧ g58 < w11_.heap.size := h2_; have := Z10.out; have := ZJ5.out; omega)); have m10_ := xm (blk_kept BKg68.out hk2_ (fun h2_ => by have u1_ := GBg68.out; have u2_ : w10_.heap.size ≤ g68 ∧ g68 < w11_.heap.size := h2_; have := ZJ5.out; omega)); clear F30 F39 F46 F52 F75 F84 F90 BKg1 BKg34 BKg58 BKg68; have F30 := m0_; have F39 := m1_; have F46 := m2_; have F52 := m3_; have F75 := m4_; have F84 := m5_; have F90 := m6_; have BKg1 := m7_; have BKg34 := m8_; have BKg58 := m9_; have BKg68 := m10_; clear m0_ m1_ m2_ m3_ m4_ m5_ m6_ m7_ m8_ m9_ m10_; clear F62; have F62 := yF62; clear yF62; clear HB; have HB := xm hb_; clear hb_ hkp_ hk2_ h0_; (try clear LEF62); have LEF62 := xm (Kd.S_reads' F62.out).1; clear hcg1_0 hfg1_0 hcg1_1 hfg1_1; obtain ⟨hcg1_0, hfg1_0, hcg1_1, hfg1_1⟩ := laws_FnExactWitnessFor.cs2 BKg1.out; clear hcg34_0 hfg34_0 hcg34_1 hfg34_1; obtain ⟨hcg34_0, hfg34_0, hcg34_1, hfg34_1⟩ := laws_FnExactWitnessFor.cs2 BKg34.out; clear hcg58_0 hfg58_0 hcg58_1 hfg58_1; obtain ⟨hcg58_0, hfg58_0, hcg58_1, hfg58_1⟩ := laws_FnExactWitnessFor.cs2 BKg58.out; clear hcg68_0 hfg68_0 hcg68_1 hfg68_1; obtain ⟨hcg68_0, hfg68_0, hcg68_1, hfg68_1⟩ := laws_FnExactWitnessFor.cs2 BKg68.out)
  | ((with_reducible refine gate_callee (f := 16) rfl ?_); refine goesL_ (some 92) rfl rfl Try.func16 (by kernel_rfl) rfl #[.agg #[.int .i64 t61_0, .slice A63 t61_1.length c64], .int .i64 1] rfl mB ?_; refine calls_of_args (args' := #[.agg #[.int .i64 t61_0, .slice A63 t104_1.length c64], .int .i64 1]) (by simp only [LEF62.out]) ?_; refine (laws_heldTable.calls k t61_0 _ _ t104_1 1 t105_0 _ (Kd.S_reads' F62.out).2.2 (by have z_ := Kd.S_reads' F62.out; have y_ := z_.1; have x_ := z_.2.1; omega) t105A.out).mono ?_; rintro e w24_ ⟨rfl, hb_⟩; refine ⟨_, rfl, ?_⟩; have Z24 := xm (hb_.size : w23_.heap.size ≤ w24_.heap.size); have hk_ := Kept.of_below hb_ (fun _ => False); have m0_ := xm (Kd.S_kept F30.out hk_ (fun _ _ h_ => h_)); have m1_ := xm (Kd.S_kept F39.out hk_ (fun _ _ h_ => h_)); have m2_ := xm (Kd.R_kept F46.out hk_ (fun _ _ h_ => h_)); have m3_ := xm (Kd.R_kept F52.out hk_ (fun _ _ h_ => h_)); have m4_ := xm (Kd.S_kept F62.out hk_ (fun _ _ h_ => h_)); have m5_ := xm (Kd.S_kept F75.out hk_ (fun _ _ h_ => h_)); have m6_ := xm (Kd.R_kept F84.out hk_ (fun _ _ h_ => h_)); have m7_ := xm (Kd.R_kept F90.out hk_ (fun _ _ h_ => h_)); have m8_ := xm (blk_kept BKg1.out hk_ (fun h_ => h_)); have m9_ := xm (blk_kept BKg34.out hk_ (fun h_ => h_)); have m10_ := xm (blk_kept BKg58.out hk_ (fun h_ => h_)); have m11_ := xm (blk_kept BKg68.out hk_ (fun h_ => h_)); clear F30 F39 F46 F52 F62 F75 F84 F90 BKg1 BKg34 BKg58 BKg68; have F30 := m0_; have F39 := m1_; have F46 := m2_; have F52 := m3_; have F62 := m4_; have F75 := m5_; have F84 := m6_; have F90 := m7_; have BKg1 := m8_; have BKg34 := m9_; have BKg58 := m10_; have BKg68 := m11_; clear m0_ m1_ m2_ m3_ m4_ m5_ m6_ m7_ m8_ m9_ m10_ m11_; have m0_ := xm (below_step (w := w) HB.out hb_); clear HB; have HB := m0_; clear m0_ hb_ hk_; clear hcg1_0 hfg1_0 hcg1_1 hfg1_1; obtain ⟨hcg1_0, hfg1_0, hcg1_1, hfg1_1⟩ := laws_FnExactWitnessFor.cs2 BKg1.out; clear hcg34_0 hfg34_0 hcg34_1 hfg34_1; obtain ⟨hcg34_0, hfg34_0, hcg34_1, hfg34_1⟩ := laws_FnExactWitnessFor.cs2 BKg34.out; clear hcg58_0 hfg58_0 hcg58_1 hfg58_1; obtain ⟨hcg58_0, hfg58_0, hcg58_1, hfg58_1⟩ := laws_FnExactWitnessFor.cs2 BKg58.out; clear hcg68_0 hfg68_0 hcg68_1 hfg68_1; obtain ⟨hcg68_0, hfg68_0, hcg68_1, hfg68_1⟩ := laws_FnExactWitnessFor.cs2 BKg68.out)
  | (go_at_call 10; refine (laws_eqTable.calls k t61_0 _ _ t61_1 t27_0 _ _ t27_1 true _ (Kd.S_reads' F62.out).2.2 (Kd.S_reads' F62.out).2.1 (Kd.S_reads' F30.out).2.2 (Kd.S_reads' F30.out).2.1 t101A.out).mono ?_; rintro e w22_ ⟨rfl, hb_⟩; have Z22 := xm (hb_.size : w21_.heap.size ≤ w22_.heap.size); have hk_ := Kept.of_below hb_ (fun _ => False); have m0_ := xm (Kd.S_kept F30.out hk_ (fun _ _ h_ => h_)); have m1_ := xm (Kd.S_kept F39.out hk_ (fun _ _ h_ => h_)); have m2_ := xm (Kd.R_kept F46.out hk_ (fun _ _ h_ => h_)); have m3_ := xm (Kd.R_kept F52.out hk_ (fun _ _ h_ => h_)); have m4_ := xm (Kd.S_kept F62.out hk_ (fun _ _ h_ => h_)); have m5_ := xm (Kd.S_kept F75.out hk_ (fun _ _ h_ => h_)); have m6_ := xm (Kd.R_kept F84.out hk_ (fun _ _ h_ => h_)); have m7_ := xm (Kd.R_kept F90.out hk_ (fun _ _ h_ => h_)); have m8_ := xm (blk_kept BKg1.out hk_ (fun h_ => h_)); have m9_ := xm (blk_kept BKg34.out hk_ (fun h_ => h_)); have m10_ := xm (blk_kept BKg58.out hk_ (fun h_ => h_)); have m11_ := xm (blk_kept BKg68.out hk_ (fun h_ => h_)); clear F30 F39 F46 F52 F62 F75 F84 F90 BKg1 BKg34 BKg58 BKg68; have F30 := m0_; have F39 := m1_; have F46 := m2_; have F52 := m3_; have F62 := m4_; have F75 := m5_; have F84 := m6_; have F90 := m7_; have BKg1 := m8_; have BKg34 := m9_; have BKg58 := m10_; have BKg68 := m11_; clear m0_ m1_ m2_ m3_ m4_ m5_ m6_ m7_ m8_ m9_ m10_ m11_; have m0_ := xm (below_step (w := w) HB.out hb_); clear HB; have HB := m0_; clear m0_ hb_ hk_; clear hcg1_0 hfg1_0 hcg1_1 hfg1_1; obtain ⟨hcg1_0, hfg1_0, hcg1_1, hfg1_1⟩ := laws_FnExactWitnessFor.cs2 BKg1.out; clear hcg34_0 hfg34_0 hcg34_1 hfg34_1; obtain ⟨hcg34_0, hfg34_0, hcg34_1, hfg34_1⟩ := laws_FnExactWitnessFor.cs2 BKg34.out; clear hcg58_0 hfg58_0 hcg58_1 hfg58_1; obtain ⟨hcg58_0, hfg58_0, hcg58_1, hfg58_1⟩ := laws_FnExactWitnessFor.cs2 BKg58.out; clear hcg68_0 hfg68_0 hcg68_1 hfg68_1; obtain ⟨hcg68_0, hfg68_0, hcg68_1, hfg68_1⟩ := laws_FnExactWitnessFor.cs2 BKg68.out))
 have hk_ := Kept.drew (Kept.refl w24_ (fun _ => False))
 have m0_ := xm (Kd.S_kept F30.out hk_ (fun _ _ h_ => h_))
 have m1_ := xm (Kd.S_kept F39.out hk_ (fun _ _ h_ => h_))
 have m2_ := xm (Kd.R_kept F46.out hk_ (fun _ _ h_ => h_))
 have m3_ := xm (Kd.R_kept F52.out hk_ (fun _ _ h_ => h_))
 have m4_ := xm (Kd.S_kept F62.out hk_ (fun _ _ h_ => h_))
 have m5_ := xm (Kd.S_kept F75.out hk_ (fun _ _ h_ => h_))
 have m6_ := xm (Kd.R_kept F84.out hk_ (fun _ _ h_ => h_))
 have m7_ := xm (Kd.R_kept F90.out hk_ (fun _ _ h_ => h_))
 have m8_ := xm (blk_kept BKg1.out hk_ (fun h_ => h_))
 have m9_ := xm (blk_kept BKg34.out hk_ (fun h_ => h_))
 have m10_ := xm (blk_kept BKg58.out hk_ (fun h_ => h_))
 have m11_ := xm (blk_kept BKg68.out hk_ (fun h_ => h_))
 clear F30 F39 F46 F52 F62 F75 F84 F90 BKg1 BKg34 BKg58 BKg68
 have F30 := m0_
 have F39 := m1_
 have F46 := m2_
 have F52 := m3_
 have F62 := m4_
 have F75 := m5_
 have F84 := m6_
 have F90 := m7_
 have BKg1 := m8_
 have BKg34 := m9_
 have BKg58 := m10_
 have BKg68 := m11_
 clear m0_ m1_ m2_ m3_ m4_ m5_ m6_ m7_ m8_ m9_ m10_ m11_
 have m0_ := xm (xd HB.out)
 clear HB hk_
 have HB := m0_
 clear m0_
 have Z25 : Aside0 (w24_.heap.size ≤ w24_.drew.heap.size) := xm (Nat.le_refl _)
 refine start_ (n := 12) (S := fun w' => w'.cell? ⟨g1, 0, none⟩ = some (.slice A2_0 l2_0.length c2_0) ∧ w'.cell? ⟨g1, 1, none⟩ = some (.slice A2_1 l2_1.length c2_1)) (ds := []) #[Z,Z,Z,Z,Z,Z,Z,Z,Z,Z,Z,Z] (by kernel_rfl) rfl rfl ⟨((xc BKg1.out 0).trans rfl), ((xc BKg1.out 1).trans rfl)⟩ (fun hHeld => ?_)
 generalize w24_.drew = w25_ at F30 F39 F46 F52 F62 F75 F84 F90 BKg1 BKg34 BKg58 BKg68 Z25 HB hHeld ⊢
 refine tx 3 12 8 rfl rfl (by kernel_rfl) hHeld (by rintro w' ⟨s0, s1⟩; go_simp; with_reducible rfl) ?_
 refine px 0 12 9 (by kernel_rfl) ?_
 refine px 2 12 13 (by kernel_rfl) ?_
 refine join_ (σ := Value × Value × Value × Value × Value × Value × Value) 2 #[Y,Y,Y,Y,Y,Y,Y,Y,Y,Y,Z,Z] (fun s_ => [(100, s_.1), (103, s_.2.1), (104, s_.2.2.1), (17, s_.2.2.2.1), (98, s_.2.2.2.2.1), (105, s_.2.2.2.2.2.1), (106, s_.2.2.2.2.2.2)]) (fun s_ w' => ∃ (g135 n136 n137 : Nat) (A129 : Option Addr) (c130 : Nat) (P132 : Nat → Prop), s_.2.2.1 = .tuple #[.agg #[.int .i64 t128_0, .slice A129 t128_1.length c130], .bool t128_2] ∧ s_.2.2.2.1 = .pointer (some ⟨g135, 0, none⟩) ∧ s_.2.2.2.2.1 = .tuple #[.agg #[.int .i64 t128_0, .slice A129 t128_1.length c130], .bool t128_2] ∧ s_.2.2.2.2.2.1 = .agg #[.int .i64 t128_0, .slice A129 t128_1.length c130] ∧ s_.2.2.2.2.2.2 = .bool t128_2 ∧ w'.heap[g135]? = some (.cells #[.int .i64 0, .slice none 0 0] 30 (0, 0)) ∧ Below w25_.heap.size w25_ w' ∧ (w25_.heap.size ≤ g135 ∧ g135 < w'.heap.size ∧ w25_.heap.size ≤ n136 ∧ n136 ≤ n137 ∧ n137 ≤ w'.heap.size ∧ (g135 < n136 ∨ n137 ≤ g135)) ∧ Kd.S k53 53 w' w.heap.size P132 (.slice A129 t128_1.length c130) t128_1 ∧ (∀ k_, P132 k_ → n136 ≤ k_ ∧ k_ < n137) ∧ (∀ k_, P132 k_ → True)) ?_ (fun hJ => ?_)
 rotate_left
 ·have HL := xm (Below.refl w25_.heap.size w25_)
  refine two_ (i := 1) (j := 9) (Ni := some 100) (Nj := some 17) #[Y,Y,Y,Y,Z,Z,Z,Z,Z,Z,Z,Z] #[Y,Z,Y,Y,Z,Z,Z,Z,Z,Y,Z,Z] rfl rfl rfl rfl (by kernel_rfl) (by decide) (by decide) (fun K hK => ?_) (fun K hK => ?_)
  ·refine goes_ Try.func7 (by kernel_rfl) rfl #[.slice A0 l0.length c0] (by rfl) rfl rfl mB ?_
   refine (laws_toDependS.calls k _ _ l0 t108_0 _ (Kd.C_below (Kd.C_below HR0.out HB.out) HL.out) HC0.out t108A.out).mono ?_
   rintro e wl4_ ⟨v0_, rfl, h0_, hb_⟩
   refine ⟨_, rfl, ?_⟩
   obtain ⟨A109, c110, rfl⟩ := Kd.S_slice h0_
   have F111 := xm h0_
   have ml_ := xm (below_step HL.out hb_)
   clear HL
   have HL := ml_
   clear ml_
   clear h0_
   clear hb_
   refine hK.out _ _ ⟨(pw_cell_below HL.out ((xc BKg1.out 0).trans rfl)), (pw_cell_below HL.out ((xc BKg1.out 1).trans rfl))⟩ (fun hHeld => nC ?_)
   clear hK K
   refine two_ (i := 4) (j := 9) (Ni := some 103) (Nj := some 17) #[Y,Y,Y,Y,Y,Z,Z,Z,Z,Z,Z,Z] #[Y,Y,Y,Y,Z,Z,Z,Z,Z,Y,Z,Z] rfl rfl rfl rfl (by kernel_rfl) (by decide) (by decide) (fun K hK => ?_) (fun K hK => ?_)
   ·refine goes_ Try.func8 (by kernel_rfl) rfl #[.agg #[.slice A2_0 l2_0.length c2_0, .slice A2_1 l2_1.length c2_1]] (by rfl) rfl rfl mB ?_
    refine (laws_toDepend.calls k _ _ l2_0 _ _ l2_1 t115_0 t115_1 _ (Kd.C_below (Kd.C_below HR2_0.out HB.out) HL.out) HC2_0.out (Kd.C_below (Kd.C_below HR2_1.out HB.out) HL.out) HC2_1.out t115A.out).mono ?_
    rintro e wl5_ ⟨v0_, v1_, rfl, h0_, h1_, hb_⟩
    refine ⟨_, rfl, ?_⟩
    obtain ⟨A116, c117, rfl⟩ := Kd.R_slice h0_
    obtain ⟨A122, c123, rfl⟩ := Kd.R_slice h1_
    have F118 := xm h0_
    have F124 := xm h1_
    have ml_ := xm (below_step HL.out hb_)
    clear HL
    have HL := ml_
    clear ml_
    clear h0_ h1_
    have mk_ := xm (Kd.S_below F111.out hb_)
    clear F111
    have F111 := mk_
    clear mk_
    clear hb_
    refine hK.out _ _ ⟨(pw_cell_below HL.out ((xc BKg1.out 0).trans rfl)), (pw_cell_below HL.out ((xc BKg1.out 1).trans rfl))⟩ (fun hHeld => nC ?_)
    clear hK K
    refine two_ (i := 5) (j := 9) (Ni := some 104) (Nj := some 17) #[Y,Y,Y,Y,Y,Y,Z,Z,Z,Z,Z,Z] #[Y,Y,Y,Y,Y,Z,Z,Z,Z,Y,Z,Z] rfl rfl rfl rfl (by kernel_rfl) (by decide) (by decide) (fun K hK => ?_) (fun K hK => ?_)
    ·refine goes_ Try.func9 (by kernel_rfl) rfl #[.slice A109 t108_0.length c110, .int .i64 a1, .agg #[.slice A116 t115_0.length c117, .slice A122 t115_1.length c123]] (by rfl) rfl rfl mB ?_
     refine (impl_WitnessFor.calls k _ _ t108_0 a1 _ _ t115_0 _ _ t115_1 t128_0 t128_1 t128_2 _ (Kd.S_reads' F111.out).2.2 (Kd.S_reads' F111.out).2.1 (Kd.R_reads' F118.out).2.2 (Kd.R_reads' F118.out).2.1 (Kd.R_reads' F124.out).2.2 (Kd.R_reads' F124.out).2.1 t128A.out).mono ?_
     rintro e wl6_ ⟨v1_, rfl, h0_, hb_⟩
     refine ⟨_, rfl, ?_⟩
     obtain ⟨A129, c130, rfl⟩ := Kd.S_slice h0_
     obtain ⟨P132, p1_, p2_, p3_⟩ := hideS (base := w.heap.size) h0_ (Nat.le_trans HB.out.size HL.out.size)
     have F131 := xm p1_
     have B133 := xm p2_
     have T134 := xm p3_
     clear p1_ p2_ p3_
     have HP_ := xm HL.out.size
     have GL_ := xm (Nat.le_refl 0)
     have ml_ := xm (below_step HL.out hb_)
     clear HL
     have HL := ml_
     clear ml_
     clear h0_
     have mk_ := xm (Kd.S_below F111.out hb_)
     clear F111
     have F111 := mk_
     clear mk_
     have mk_ := xm (Kd.R_below F118.out hb_)
     clear F118
     have F118 := mk_
     clear mk_
     have mk_ := xm (Kd.R_below F124.out hb_)
     clear F124
     have F124 := mk_
     clear mk_
     obtain ⟨nlo_, hnlo_⟩ : ∃ q_, q_ = wl5_.heap.size := ⟨_, rfl⟩
     obtain ⟨nhi_, hnhi_⟩ : ∃ q_, q_ = wl6_.heap.size := ⟨_, rfl⟩
     have mB_ : Aside0 (∀ k_, P132 k_ → nlo_ ≤ k_ ∧ k_ < nhi_) := xm (by rw [hnlo_, hnhi_]; exact B133.out)
     clear B133
     have B133 := mB_
     clear mB_
     have ZL : Aside0 (w25_.heap.size ≤ nlo_ ∧ nlo_ ≤ nhi_ ∧ nhi_ ≤ wl6_.heap.size) := xm (by have z1_ := HP_.out; have z2_ := hb_.size; omega)
     clear hnlo_ hnhi_
     clear hb_
     refine hK.out _ _ ⟨(pw_cell_below HL.out ((xc BKg1.out 0).trans rfl)), (pw_cell_below HL.out ((xc BKg1.out 1).trans rfl))⟩ (fun hHeld => nC ?_)
     clear hK K
     refine px 6 12 127 (by kernel_rfl) ?_
     refine px 7 12 255 (by kernel_rfl) ?_
     refine px 8 12 511 (by kernel_rfl) ?_
     refine one_ (i := 9) (N := some 17) #[Y,Y,Y,Y,Y,Y,Y,Y,Y,Y,Z,Z] rfl rfl (by kernel_rfl) (by decide) (fun K hK => ?_)
     refine value_ (v := .pointer (some ⟨wl6_.heap.size, 0, none⟩)) (w1 := wl6_.alloc (.cells #[.int .i64 0, .slice none 0 0] 30 (0, 0))) (by rfl) rfl zB ?_
     obtain ⟨wl10_, gq_, hgq_, hwq_, hbq_⟩ : ∃ (W_ : World) (g_ : Nat), g_ = wl6_.heap.size ∧ W_ = wl6_.alloc (.cells #[.int .i64 0, .slice none 0 0] 30 (0, 0)) ∧ True := ⟨_, _, rfl, rfl, trivial⟩
     rw [← hwq_, ← hgq_]
     have hb_ : Below wl6_.heap.size wl6_ wl10_ := by rw [hwq_]; exact xa (Below.refl _ _) _
     have BQ : Aside0 (wl10_.heap[gq_]? = some (.cells #[.int .i64 0, .slice none 0 0] 30 (0, 0))) := xm (by rw [hwq_, hgq_]; exact blk_new _ _)
     have ZQ : Aside0 (w25_.heap.size ≤ gq_ ∧ gq_ < wl10_.heap.size ∧ w25_.heap.size ≤ nlo_ ∧ nlo_ ≤ nhi_ ∧ nhi_ ≤ wl10_.heap.size ∧ (gq_ < nlo_ ∨ nhi_ ≤ gq_)) := xm (by have z1_ := ZL.out; have z2_ := hb_.size; have z3_ := blk_lt BQ.out; have z4_ := HL.out.size; omega)
     have ml_ := xm (below_step HL.out hb_)
     clear HL
     have HL := ml_
     clear ml_
     have mk_ := xm (Kd.S_below F111.out hb_)
     clear F111
     have F111 := mk_
     clear mk_
     have mk_ := xm (Kd.R_below F118.out hb_)
     clear F118
     have F118 := mk_
     clear mk_
     have mk_ := xm (Kd.R_below F124.out hb_)
     clear F124
     have F124 := mk_
     clear mk_
     have mk_ := xm (Kd.S_below F131.out hb_)
     clear F131
     have F131 := mk_
     clear mk_
     clear hb_ hgq_ hwq_ hbq_
     refine hK.out _ _ ⟨(pw_cell_below HL.out ((xc BKg1.out 0).trans rfl)), (pw_cell_below HL.out ((xc BKg1.out 1).trans rfl))⟩ (fun hHeld => nC ?_)
     clear hK K
     exact norm_ pB (hJ (.slice A109 t108_0.length c110, .agg #[.slice A116 t115_0.length c117, .slice A122 t115_1.length c123], .tuple #[.agg #[.int .i64 t128_0, .slice A129 t128_1.length c130], .bool t128_2], .pointer (some ⟨gq_, 0, none⟩), .tuple #[.agg #[.int .i64 t128_0, .slice A129 t128_1.length c130], .bool t128_2], .agg #[.int .i64 t128_0, .slice A129 t128_1.length c130], .bool t128_2) _ ⟨gq_, nlo_, nhi_, A129, c130, P132, rfl, rfl, rfl, rfl, rfl, BQ.out, HL.out, ZQ.out, F131.out, B133.out, T134.out⟩)
    ·refine value_ (v := .pointer (some ⟨wl5_.heap.size, 0, none⟩)) (w1 := wl5_.alloc (.cells #[.int .i64 0, .slice none 0 0] 30 (0, 0))) (by rfl) rfl zB ?_
     obtain ⟨wl6_, gq_, hgq_, hwq_, hbq_⟩ : ∃ (W_ : World) (g_ : Nat), g_ = wl5_.heap.size ∧ W_ = wl5_.alloc (.cells #[.int .i64 0, .slice none 0 0] 30 (0, 0)) ∧ True := ⟨_, _, rfl, rfl, trivial⟩
     rw [← hwq_, ← hgq_]
     have hb_ : Below wl5_.heap.size wl5_ wl6_ := by rw [hwq_]; exact xa (Below.refl _ _) _
     have BQ : Aside0 (wl6_.heap[gq_]? = some (.cells #[.int .i64 0, .slice none 0 0] 30 (0, 0))) := xm (by rw [hwq_, hgq_]; exact blk_new _ _)
     have GQ := xm (show w25_.heap.size ≤ gq_ ∧ gq_ < wl6_.heap.size from ⟨by rw [hgq_]; exact HL.out.size, blk_lt BQ.out⟩)
     have ml_ := xm (below_step HL.out hb_)
     clear HL
     have HL := ml_
     clear ml_
     have mk_ := xm (Kd.S_below F111.out hb_)
     clear F111
     have F111 := mk_
     clear mk_
     have mk_ := xm (Kd.R_below F118.out hb_)
     clear F118
     have F118 := mk_
     clear mk_
     have mk_ := xm (Kd.R_below F124.out hb_)
     clear F124
     have F124 := mk_
     clear mk_
     clear hb_ hgq_ hwq_ hbq_
     refine hK.out _ _ ⟨(pw_cell_below HL.out ((xc BKg1.out 0).trans rfl)), (pw_cell_below HL.out ((xc BKg1.out 1).trans rfl))⟩ (fun hHeld => nC ?_)
     clear hK K
     refine one_ (i := 5) (N := some 104) #[Y,Y,Y,Y,Y,Y,Z,Z,Z,Y,Z,Z] rfl rfl (by kernel_rfl) (by decide) (fun K hK => ?_)
     refine goes_ Try.func9 (by kernel_rfl) rfl #[.slice A109 t108_0.length c110, .int .i64 a1, .agg #[.slice A116 t115_0.length c117, .slice A122 t115_1.length c123]] (by rfl) rfl rfl mB ?_
     refine (impl_WitnessFor.calls k _ _ t108_0 a1 _ _ t115_0 _ _ t115_1 t128_0 t128_1 t128_2 _ (Kd.S_reads' F111.out).2.2 (Kd.S_reads' F111.out).2.1 (Kd.R_reads' F118.out).2.2 (Kd.R_reads' F118.out).2.1 (Kd.R_reads' F124.out).2.2 (Kd.R_reads' F124.out).2.1 t128A.out).mono ?_
     rintro e wl7_ ⟨v1_, rfl, h0_, hb_⟩
     refine ⟨_, rfl, ?_⟩
     obtain ⟨A129, c130, rfl⟩ := Kd.S_slice h0_
     obtain ⟨P132, p1_, p2_, p3_⟩ := hideS (base := w.heap.size) h0_ (Nat.le_trans HB.out.size HL.out.size)
     have F131 := xm p1_
     have B133 := xm p2_
     have T134 := xm p3_
     clear p1_ p2_ p3_
     have HP_ := xm HL.out.size
     have GL_ := xm (Nat.le_refl 0)
     have ml_ := xm (below_step HL.out hb_)
     clear HL
     have HL := ml_
     clear ml_
     clear h0_
     have GL_ := xm (blk_lt BQ.out)
     have mq_ := xm (blk_below BQ.out hb_)
     clear BQ
     have BQ := mq_
     clear mq_
     have mk_ := xm (Kd.S_below F111.out hb_)
     clear F111
     have F111 := mk_
     clear mk_
     have mk_ := xm (Kd.R_below F118.out hb_)
     clear F118
     have F118 := mk_
     clear mk_
     have mk_ := xm (Kd.R_below F124.out hb_)
     clear F124
     have F124 := mk_
     clear mk_
     obtain ⟨nlo_, hnlo_⟩ : ∃ q_, q_ = wl6_.heap.size := ⟨_, rfl⟩
     obtain ⟨nhi_, hnhi_⟩ : ∃ q_, q_ = wl7_.heap.size := ⟨_, rfl⟩
     have mB_ : Aside0 (∀ k_, P132 k_ → nlo_ ≤ k_ ∧ k_ < nhi_) := xm (by rw [hnlo_, hnhi_]; exact B133.out)
     clear B133
     have B133 := mB_
     clear mB_
     have ZQ : Aside0 (w25_.heap.size ≤ gq_ ∧ gq_ < wl7_.heap.size ∧ w25_.heap.size ≤ nlo_ ∧ nlo_ ≤ nhi_ ∧ nhi_ ≤ wl7_.heap.size ∧ (gq_ < nlo_ ∨ nhi_ ≤ gq_)) := xm (by have z1_ := GL_.out; have z2_ := hb_.size; have z3_ := GQ.out; have z4_ := blk_lt BQ.out; have z5_ := HP_.out; omega)
     clear hnlo_ hnhi_
     clear hb_
     refine hK.out _ _ ⟨(pw_cell_below HL.out ((xc BKg1.out 0).trans rfl)), (pw_cell_below HL.out ((xc BKg1.out 1).trans rfl))⟩ (fun hHeld => nC ?_)
     clear hK K
     refine px 6 12 639 (by kernel_rfl) ?_
     refine px 7 12 767 (by kernel_rfl) ?_
     refine px 8 12 1023 (by kernel_rfl) ?_
     exact norm_ pB (hJ (.slice A109 t108_0.length c110, .agg #[.slice A116 t115_0.length c117, .slice A122 t115_1.length c123], .tuple #[.agg #[.int .i64 t128_0, .slice A129 t128_1.length c130], .bool t128_2], .pointer (some ⟨gq_, 0, none⟩), .tuple #[.agg #[.int .i64 t128_0, .slice A129 t128_1.length c130], .bool t128_2], .agg #[.int .i64 t128_0, .slice A129 t128_1.length c130], .bool t128_2) _ ⟨gq_, nlo_, nhi_, A129, c130, P132, rfl, rfl, rfl, rfl, rfl, BQ.out, HL.out, ZQ.out, F131.out, B133.out, T134.out⟩)
   ·refine value_ (v := .pointer (some ⟨wl4_.heap.size, 0, none⟩)) (w1 := wl4_.alloc (.cells #[.int .i64 0, .slice none 0 0] 30 (0, 0))) (by rfl) rfl zB ?_
    obtain ⟨wl5_, gq_, hgq_, hwq_, hbq_⟩ : ∃ (W_ : World) (g_ : Nat), g_ = wl4_.heap.size ∧ W_ = wl4_.alloc (.cells #[.int .i64 0, .slice none 0 0] 30 (0, 0)) ∧ True := ⟨_, _, rfl, rfl, trivial⟩
    rw [← hwq_, ← hgq_]
    have hb_ : Below wl4_.heap.size wl4_ wl5_ := by rw [hwq_]; exact xa (Below.refl _ _) _
    have BQ : Aside0 (wl5_.heap[gq_]? = some (.cells #[.int .i64 0, .slice none 0 0] 30 (0, 0))) := xm (by rw [hwq_, hgq_]; exact blk_new _ _)
    have GQ := xm (show w25_.heap.size ≤ gq_ ∧ gq_ < wl5_.heap.size from ⟨by rw [hgq_]; exact HL.out.size, blk_lt BQ.out⟩)
    have ml_ := xm (below_step HL.out hb_)
    clear HL
    have HL := ml_
    clear ml_
    have mk_ := xm (Kd.S_below F111.out hb_)
    clear F111
    have F111 := mk_
    clear mk_
    clear hb_ hgq_ hwq_ hbq_
    refine hK.out _ _ ⟨(pw_cell_below HL.out ((xc BKg1.out 0).trans rfl)), (pw_cell_below HL.out ((xc BKg1.out 1).trans rfl))⟩ (fun hHeld => nC ?_)
    clear hK K
    refine one_ (i := 4) (N := some 103) #[Y,Y,Y,Y,Y,Z,Z,Z,Z,Y,Z,Z] rfl rfl (by kernel_rfl) (by decide) (fun K hK => ?_)
    refine goes_ Try.func8 (by kernel_rfl) rfl #[.agg #[.slice A2_0 l2_0.length c2_0, .slice A2_1 l2_1.length c2_1]] (by rfl) rfl rfl mB ?_
    refine (laws_toDepend.calls k _ _ l2_0 _ _ l2_1 t115_0 t115_1 _ (Kd.C_below (Kd.C_below HR2_0.out HB.out) HL.out) HC2_0.out (Kd.C_below (Kd.C_below HR2_1.out HB.out) HL.out) HC2_1.out t115A.out).mono ?_
    rintro e wl6_ ⟨v0_, v1_, rfl, h0_, h1_, hb_⟩
    refine ⟨_, rfl, ?_⟩
    obtain ⟨A116, c117, rfl⟩ := Kd.R_slice h0_
    obtain ⟨A122, c123, rfl⟩ := Kd.R_slice h1_
    have F118 := xm h0_
    have F124 := xm h1_
    have ml_ := xm (below_step HL.out hb_)
    clear HL
    have HL := ml_
    clear ml_
    clear h0_ h1_
    have GL_ := xm (blk_lt BQ.out)
    have mq_ := xm (blk_below BQ.out hb_)
    clear BQ
    have BQ := mq_
    clear mq_
    have mk_ := xm (Kd.S_below F111.out hb_)
    clear F111
    have F111 := mk_
    clear mk_
    clear hb_
    refine hK.out _ _ ⟨(pw_cell_below HL.out ((xc BKg1.out 0).trans rfl)), (pw_cell_below HL.out ((xc BKg1.out 1).trans rfl))⟩ (fun hHeld => nC ?_)
    clear hK K
    refine one_ (i := 5) (N := some 104) #[Y,Y,Y,Y,Y,Y,Z,Z,Z,Y,Z,Z] rfl rfl (by kernel_rfl) (by decide) (fun K hK => ?_)
    refine goes_ Try.func9 (by kernel_rfl) rfl #[.slice A109 t108_0.length c110, .int .i64 a1, .agg #[.slice A116 t115_0.length c117, .slice A122 t115_1.length c123]] (by rfl) rfl rfl mB ?_
    refine (impl_WitnessFor.calls k _ _ t108_0 a1 _ _ t115_0 _ _ t115_1 t128_0 t128_1 t128_2 _ (Kd.S_reads' F111.out).2.2 (Kd.S_reads' F111.out).2.1 (Kd.R_reads' F118.out).2.2 (Kd.R_reads' F118.out).2.1 (Kd.R_reads' F124.out).2.2 (Kd.R_reads' F124.out).2.1 t128A.out).mono ?_
    rintro e wl7_ ⟨v1_, rfl, h0_, hb_⟩
    refine ⟨_, rfl, ?_⟩
    obtain ⟨A129, c130, rfl⟩ := Kd.S_slice h0_
    obtain ⟨P132, p1_, p2_, p3_⟩ := hideS (base := w.heap.size) h0_ (Nat.le_trans HB.out.size HL.out.size)
    have F131 := xm p1_
    have B133 := xm p2_
    have T134 := xm p3_
    clear p1_ p2_ p3_
    have HP_ := xm HL.out.size
    have GL_ := xm (Nat.le_refl 0)
    have ml_ := xm (below_step HL.out hb_)
    clear HL
    have HL := ml_
    clear ml_
    clear h0_
    have GL_ := xm (blk_lt BQ.out)
    have mq_ := xm (blk_below BQ.out hb_)
    clear BQ
    have BQ := mq_
    clear mq_
    have mk_ := xm (Kd.S_below F111.out hb_)
    clear F111
    have F111 := mk_
    clear mk_
    have mk_ := xm (Kd.R_below F118.out hb_)
    clear F118
    have F118 := mk_
    clear mk_
    have mk_ := xm (Kd.R_below F124.out hb_)
    clear F124
    have F124 := mk_
    clear mk_
    obtain ⟨nlo_, hnlo_⟩ : ∃ q_, q_ = wl6_.heap.size := ⟨_, rfl⟩
    obtain ⟨nhi_, hnhi_⟩ : ∃ q_, q_ = wl7_.heap.size := ⟨_, rfl⟩
    have mB_ : Aside0 (∀ k_, P132 k_ → nlo_ ≤ k_ ∧ k_ < nhi_) := xm (by rw [hnlo_, hnhi_]; exact B133.out)
    clear B133
    have B133 := mB_
    clear mB_
    have ZQ : Aside0 (w25_.heap.size ≤ gq_ ∧ gq_ < wl7_.heap.size ∧ w25_.heap.size ≤ nlo_ ∧ nlo_ ≤ nhi_ ∧ nhi_ ≤ wl7_.heap.size ∧ (gq_ < nlo_ ∨ nhi_ ≤ gq_)) := xm (by have z1_ := GL_.out; have z2_ := hb_.size; have z3_ := GQ.out; have z4_ := blk_lt BQ.out; have z5_ := HP_.out; omega)
    clear hnlo_ hnhi_
    clear hb_
    refine hK.out _ _ ⟨(pw_cell_below HL.out ((xc BKg1.out 0).trans rfl)), (pw_cell_below HL.out ((xc BKg1.out 1).trans rfl))⟩ (fun hHeld => nC ?_)
    clear hK K
    refine px 6 12 639 (by kernel_rfl) ?_
    refine px 7 12 767 (by kernel_rfl) ?_
    refine px 8 12 1023 (by kernel_rfl) ?_
    exact norm_ pB (hJ (.slice A109 t108_0.length c110, .agg #[.slice A116 t115_0.length c117, .slice A122 t115_1.length c123], .tuple #[.agg #[.int .i64 t128_0, .slice A129 t128_1.length c130], .bool t128_2], .pointer (some ⟨gq_, 0, none⟩), .tuple #[.agg #[.int .i64 t128_0, .slice A129 t128_1.length c130], .bool t128_2], .agg #[.int .i64 t128_0, .slice A129 t128_1.length c130], .bool t128_2) _ ⟨gq_, nlo_, nhi_, A129, c130, P132, rfl, rfl, rfl, rfl, rfl, BQ.out, HL.out, ZQ.out, F131.out, B133.out, T134.out⟩)
  ·refine value_ (v := .pointer (some ⟨w25_.heap.size, 0, none⟩)) (w1 := w25_.alloc (.cells #[.int .i64 0, .slice none 0 0] 30 (0, 0))) (by rfl) rfl zB ?_
   obtain ⟨wl4_, gq_, hgq_, hwq_, hbq_⟩ : ∃ (W_ : World) (g_ : Nat), g_ = w25_.heap.size ∧ W_ = w25_.alloc (.cells #[.int .i64 0, .slice none 0 0] 30 (0, 0)) ∧ True := ⟨_, _, rfl, rfl, trivial⟩
   rw [← hwq_, ← hgq_]
   have hb_ : Below w25_.heap.size w25_ wl4_ := by rw [hwq_]; exact xa (Below.refl _ _) _
   have BQ : Aside0 (wl4_.heap[gq_]? = some (.cells #[.int .i64 0, .slice none 0 0] 30 (0, 0))) := xm (by rw [hwq_, hgq_]; exact blk_new _ _)
   have GQ := xm (show w25_.heap.size ≤ gq_ ∧ gq_ < wl4_.heap.size from ⟨by rw [hgq_]; exact HL.out.size, blk_lt BQ.out⟩)
   have ml_ := xm (below_step HL.out hb_)
   clear HL
   have HL := ml_
   clear ml_
   clear hb_ hgq_ hwq_ hbq_
   refine hK.out _ _ ⟨(pw_cell_below HL.out ((xc BKg1.out 0).trans rfl)), (pw_cell_below HL.out ((xc BKg1.out 1).trans rfl))⟩ (fun hHeld => nC ?_)
   clear hK K
   refine one_ (i := 1) (N := some 100) #[Y,Y,Y,Y,Z,Z,Z,Z,Z,Y,Z,Z] rfl rfl (by kernel_rfl) (by decide) (fun K hK => ?_)
   refine goes_ Try.func7 (by kernel_rfl) rfl #[.slice A0 l0.length c0] (by rfl) rfl rfl mB ?_
   refine (laws_toDependS.calls k _ _ l0 t108_0 _ (Kd.C_below (Kd.C_below HR0.out HB.out) HL.out) HC0.out t108A.out).mono ?_
   rintro e wl5_ ⟨v0_, rfl, h0_, hb_⟩
   refine ⟨_, rfl, ?_⟩
   obtain ⟨A109, c110, rfl⟩ := Kd.S_slice h0_
   have F111 := xm h0_
   have ml_ := xm (below_step HL.out hb_)
   clear HL
   have HL := ml_
   clear ml_
   clear h0_
   have GL_ := xm (blk_lt BQ.out)
   have mq_ := xm (blk_below BQ.out hb_)
   clear BQ
   have BQ := mq_
   clear mq_
   clear hb_
   refine hK.out _ _ ⟨(pw_cell_below HL.out ((xc BKg1.out 0).trans rfl)), (pw_cell_below HL.out ((xc BKg1.out 1).trans rfl))⟩ (fun hHeld => nC ?_)
   clear hK K
   refine one_ (i := 4) (N := some 103) #[Y,Y,Y,Y,Y,Z,Z,Z,Z,Y,Z,Z] rfl rfl (by kernel_rfl) (by decide) (fun K hK => ?_)
   refine goes_ Try.func8 (by kernel_rfl) rfl #[.agg #[.slice A2_0 l2_0.length c2_0, .slice A2_1 l2_1.length c2_1]] (by rfl) rfl rfl mB ?_
   refine (laws_toDepend.calls k _ _ l2_0 _ _ l2_1 t115_0 t115_1 _ (Kd.C_below (Kd.C_below HR2_0.out HB.out) HL.out) HC2_0.out (Kd.C_below (Kd.C_below HR2_1.out HB.out) HL.out) HC2_1.out t115A.out).mono ?_
   rintro e wl6_ ⟨v0_, v1_, rfl, h0_, h1_, hb_⟩
   refine ⟨_, rfl, ?_⟩
   obtain ⟨A116, c117, rfl⟩ := Kd.R_slice h0_
   obtain ⟨A122, c123, rfl⟩ := Kd.R_slice h1_
   have F118 := xm h0_
   have F124 := xm h1_
   have ml_ := xm (below_step HL.out hb_)
   clear HL
   have HL := ml_
   clear ml_
   clear h0_ h1_
   have GL_ := xm (blk_lt BQ.out)
   have mq_ := xm (blk_below BQ.out hb_)
   clear BQ
   have BQ := mq_
   clear mq_
   have mk_ := xm (Kd.S_below F111.out hb_)
   clear F111
   have F111 := mk_
   clear mk_
   clear hb_
   refine hK.out _ _ ⟨(pw_cell_below HL.out ((xc BKg1.out 0).trans rfl)), (pw_cell_below HL.out ((xc BKg1.out 1).trans rfl))⟩ (fun hHeld => nC ?_)
   clear hK K
   refine one_ (i := 5) (N := some 104) #[Y,Y,Y,Y,Y,Y,Z,Z,Z,Y,Z,Z] rfl rfl (by kernel_rfl) (by decide) (fun K hK => ?_)
   refine goes_ Try.func9 (by kernel_rfl) rfl #[.slice A109 t108_0.length c110, .int .i64 a1, .agg #[.slice A116 t115_0.length c117, .slice A122 t115_1.length c123]] (by rfl) rfl rfl mB ?_
   refine (impl_WitnessFor.calls k _ _ t108_0 a1 _ _ t115_0 _ _ t115_1 t128_0 t128_1 t128_2 _ (Kd.S_reads' F111.out).2.2 (Kd.S_reads' F111.out).2.1 (Kd.R_reads' F118.out).2.2 (Kd.R_reads' F118.out).2.1 (Kd.R_reads' F124.out).2.2 (Kd.R_reads' F124.out).2.1 t128A.out).mono ?_
   rintro e wl7_ ⟨v1_, rfl, h0_, hb_⟩
   refine ⟨_, rfl, ?_⟩
   obtain ⟨A129, c130, rfl⟩ := Kd.S_slice h0_
   obtain ⟨P132, p1_, p2_, p3_⟩ := hideS (base := w.heap.size) h0_ (Nat.le_trans HB.out.size HL.out.size)
   have F131 := xm p1_
   have B133 := xm p2_
   have T134 := xm p3_
   clear p1_ p2_ p3_
   have HP_ := xm HL.out.size
   have GL_ := xm (Nat.le_refl 0)
   have ml_ := xm (below_step HL.out hb_)
   clear HL
   have HL := ml_
   clear ml_
   clear h0_
   have GL_ := xm (blk_lt BQ.out)
   have mq_ := xm (blk_below BQ.out hb_)
   clear BQ
   have BQ := mq_
   clear mq_
   have mk_ := xm (Kd.S_below F111.out hb_)
   clear F111
   have F111 := mk_
   clear mk_
   have mk_ := xm (Kd.R_below F118.out hb_)
   clear F118
   have F118 := mk_
   clear mk_
   have mk_ := xm (Kd.R_below F124.out hb_)
   clear F124
   have F124 := mk_
   clear mk_
   obtain ⟨nlo_, hnlo_⟩ : ∃ q_, q_ = wl6_.heap.size := ⟨_, rfl⟩
   obtain ⟨nhi_, hnhi_⟩ : ∃ q_, q_ = wl7_.heap.size := ⟨_, rfl⟩
   have mB_ : Aside0 (∀ k_, P132 k_ → nlo_ ≤ k_ ∧ k_ < nhi_) := xm (by rw [hnlo_, hnhi_]; exact B133.out)
   clear B133
   have B133 := mB_
   clear mB_
   have ZQ : Aside0 (w25_.heap.size ≤ gq_ ∧ gq_ < wl7_.heap.size ∧ w25_.heap.size ≤ nlo_ ∧ nlo_ ≤ nhi_ ∧ nhi_ ≤ wl7_.heap.size ∧ (gq_ < nlo_ ∨ nhi_ ≤ gq_)) := xm (by have z1_ := GL_.out; have z2_ := hb_.size; have z3_ := GQ.out; have z4_ := blk_lt BQ.out; have z5_ := HP_.out; omega)
   clear hnlo_ hnhi_
   clear hb_
   refine hK.out _ _ ⟨(pw_cell_below HL.out ((xc BKg1.out 0).trans rfl)), (pw_cell_below HL.out ((xc BKg1.out 1).trans rfl))⟩ (fun hHeld => nC ?_)
   clear hK K
   refine px 6 12 639 (by kernel_rfl) ?_
   refine px 7 12 767 (by kernel_rfl) ?_
   refine px 8 12 1023 (by kernel_rfl) ?_
   exact norm_ pB (hJ (.slice A109 t108_0.length c110, .agg #[.slice A116 t115_0.length c117, .slice A122 t115_1.length c123], .tuple #[.agg #[.int .i64 t128_0, .slice A129 t128_1.length c130], .bool t128_2], .pointer (some ⟨gq_, 0, none⟩), .tuple #[.agg #[.int .i64 t128_0, .slice A129 t128_1.length c130], .bool t128_2], .agg #[.int .i64 t128_0, .slice A129 t128_1.length c130], .bool t128_2) _ ⟨gq_, nlo_, nhi_, A129, c130, P132, rfl, rfl, rfl, rfl, rfl, BQ.out, HL.out, ZQ.out, F131.out, B133.out, T134.out⟩)
 intro s_ w26_ hF_
 obtain ⟨v0_, v1_, v2_, v3_, v4_, v5_, v6_⟩ := s_
 (try dsimp only at hF_)
 obtain ⟨g135, n136, n137, A129, c130, P132, e1_, e2_, e3_, e4_, e5_, hbk_, hb_, hz_, hr0_, hp0_, ht0_⟩ := hF_
 subst e1_ e2_ e3_ e4_ e5_
 have ZJ26 := xm hz_
 have Z26 := xm (hb_.size : w25_.heap.size ≤ w26_.heap.size)
 have hk_ := Kept.of_below hb_ (fun _ => False)
 have m0_ := xm (Kd.S_kept F30.out hk_ (fun _ _ h_ => h_))
 have m1_ := xm (Kd.S_kept F39.out hk_ (fun _ _ h_ => h_))
 have m2_ := xm (Kd.R_kept F46.out hk_ (fun _ _ h_ => h_))
 have m3_ := xm (Kd.R_kept F52.out hk_ (fun _ _ h_ => h_))
 have m4_ := xm (Kd.S_kept F62.out hk_ (fun _ _ h_ => h_))
 have m5_ := xm (Kd.S_kept F75.out hk_ (fun _ _ h_ => h_))
 have m6_ := xm (Kd.R_kept F84.out hk_ (fun _ _ h_ => h_))
 have m7_ := xm (Kd.R_kept F90.out hk_ (fun _ _ h_ => h_))
 have m8_ := xm (blk_kept BKg1.out hk_ (fun h_ => h_))
 have m9_ := xm (blk_kept BKg34.out hk_ (fun h_ => h_))
 have m10_ := xm (blk_kept BKg58.out hk_ (fun h_ => h_))
 have m11_ := xm (blk_kept BKg68.out hk_ (fun h_ => h_))
 clear F30 F39 F46 F52 F62 F75 F84 F90 BKg1 BKg34 BKg58 BKg68
 have F30 := m0_
 have F39 := m1_
 have F46 := m2_
 have F52 := m3_
 have F62 := m4_
 have F75 := m5_
 have F84 := m6_
 have F90 := m7_
 have BKg1 := m8_
 have BKg34 := m9_
 have BKg58 := m10_
 have BKg68 := m11_
 clear m0_ m1_ m2_ m3_ m4_ m5_ m6_ m7_ m8_ m9_ m10_ m11_
 have m0_ := xm (below_step (w := w) HB.out hb_)
 clear HB
 have HB := m0_
 clear m0_
 have BKg135 := xm hbk_
 have GBg135 : Aside0 (w25_.heap.size ≤ g135 ∧ g135 < w26_.heap.size) := xm ⟨hz_.1, hz_.2.1⟩
 have F131 := xm hr0_
 have B133 := xm hp0_
 have T134 := xm ht0_
 clear hbk_ hb_ hz_ hk_ hr0_ hp0_ ht0_
 refine norm_ (a' := ?_) ?_ ?_
 rotate_left
 ·simp only [putAll, Act.put, xi, xj, xk]
  rfl
 obtain ⟨hcg135_0, hfg135_0, hcg135_1, hfg135_1⟩ := laws_FnExactWitnessFor.cs2 BKg135.out
 refine one_ (i := 10) (N := none) #[Y,Y,Y,Y,Y,Y,Y,Y,Y,Y,Y,Z] rfl rfl (by kernel_rfl) (by decide) (fun K hK => ?_)
 refine skip_ (by rfl) rfl (w1 := ((w26_.setCell ⟨g135, 0, none⟩ (.int .i64 t128_0)).setCell ⟨g135, 1, none⟩ (.slice A129 t128_1.length c130))) zB ?_
 obtain ⟨w27_, hw_⟩ : ∃ W_ : World, W_ = ((w26_.setCell ⟨g135, 0, none⟩ (.int .i64 t128_0)).setCell ⟨g135, 1, none⟩ (.slice A129 t128_1.length c130)) := ⟨_, rfl⟩
 rw [← hw_]
 clear hcg135_0 hfg135_0 hcg135_1 hfg135_1
 have hk_ : Kept w26_ w27_ (fun k_ => k_ = g135) := (by rw [hw_]; exact kept_box (kept_box (Kept.refl _ _) _ _) _ _)
 have hx_ : w27_.heap[g135]? = some (.cells #[.int .i64 t128_0, .slice A129 t128_1.length c130] 30 (0, 0)) := (by rw [hw_]; refine blk_put (cs := #[.int .i64 t128_0, .slice none 0 0]) ?_ 1 _ rfl; refine blk_put (cs := #[.int .i64 0, .slice none 0 0]) ?_ 0 _ rfl; exact BKg135.out)
 have Z27 := xm (hk_.1 : w26_.heap.size ≤ w27_.heap.size)
 have ge_ : w.heap.size ≤ g135 := (by have := GBg135.out; have := Z1.out; have := Z2.out; have := Z3.out; have := Z4.out; have := Z5.out; have := Z6.out; have := Z7.out; have := Z8.out; have := Z9.out; have := Z10.out; have := Z11.out; have := Z12.out; have := Z13.out; have := Z14.out; have := Z15.out; have := Z16.out; have := Z17.out; have := Z18.out; have := Z19.out; have := Z20.out; have := Z21.out; have := Z22.out; have := Z23.out; have := Z24.out; have := Z25.out; have := ZJ5.out; have := ZJ26.out; omega)
 have mb_ : Aside0 (Below w.heap.size w w27_) := xm (by rw [hw_]; exact xt (xt (HB.out) ge_) ge_)
 have hk2_ := (Kept.mono hk_ (S' := fun k_ => g135 ≤ k_ ∧ k_ < g135 + 1) (fun k_ h_ => by have h_ : k_ = g135 := h_; exact ⟨by omega, by omega⟩))
 have m0_ := xm (Kd.S_kept F30.out hk2_ (fun k_ h_ h2_ => by have u1_ := B32.out k_ h_; have u2_ : g135 ≤ k_ ∧ k_ < g135 + 1 := h2_; have := Z6.out; have := Z7.out; have := Z8.out; have := Z9.out; have := Z10.out; have := Z11.out; have := Z12.out; have := Z13.out; have := Z14.out; have := Z15.out; have := Z16.out; have := Z17.out; have := Z18.out; have := Z19.out; have := Z20.out; have := Z21.out; have := Z22.out; have := Z23.out; have := Z24.out; have := Z25.out; have := ZJ5.out; have := ZJ26.out; omega))
 have m1_ := xm (Kd.S_kept F39.out hk2_ (fun k_ h_ h2_ => by have u1_ := B43.out k_ h_; have u2_ : g135 ≤ k_ ∧ k_ < g135 + 1 := h2_; have := Z8.out; have := Z9.out; have := Z10.out; have := Z11.out; have := Z12.out; have := Z13.out; have := Z14.out; have := Z15.out; have := Z16.out; have := Z17.out; have := Z18.out; have := Z19.out; have := Z20.out; have := Z21.out; have := Z22.out; have := Z23.out; have := Z24.out; have := Z25.out; have := ZJ5.out; have := ZJ26.out; omega))
 have m2_ := xm (Kd.R_kept F46.out hk2_ (fun k_ h_ h2_ => by have u1_ := B50.out k_ h_; have u2_ : g135 ≤ k_ ∧ k_ < g135 + 1 := h2_; have := Z9.out; have := Z10.out; have := Z11.out; have := Z12.out; have := Z13.out; have := Z14.out; have := Z15.out; have := Z16.out; have := Z17.out; have := Z18.out; have := Z19.out; have := Z20.out; have := Z21.out; have := Z22.out; have := Z23.out; have := Z24.out; have := Z25.out; have := ZJ5.out; have := ZJ26.out; omega))
 have m3_ := xm (Kd.R_kept F52.out hk2_ (fun k_ h_ h2_ => by have u1_ := B56.out k_ h_; have u2_ : g135 ≤ k_ ∧ k_ < g135 + 1 := h2_; have := Z9.out; have := Z10.out; have := Z11.out; have := Z12.out; have := Z13.out; have := Z14.out; have := Z15.out; have := Z16.out; have := Z17.out; have := Z18.out; have := Z19.out; have := Z20.out; have := Z21.out; have := Z22.out; have := Z23.out; have := Z24.out; have := Z25.out; have := ZJ5.out; have := ZJ26.out; omega))
 have m4_ := xm (Kd.S_kept F62.out hk2_ (fun k_ h_ h2_ => by have u1_ := B66.out k_ h_; have u2_ : g135 ≤ k_ ∧ k_ < g135 + 1 := h2_; have := Z12.out; have := Z13.out; have := Z14.out; have := Z15.out; have := Z16.out; have := Z17.out; have := Z18.out; have := Z19.out; have := Z20.out; have := Z21.out; have := Z22.out; have := Z23.out; have := Z24.out; have := Z25.out; have := ZJ5.out; have := ZJ26.out; omega))
 have m5_ := xm (Kd.S_kept F75.out hk2_ (fun k_ h_ h2_ => by have u1_ := B79.out k_ h_; have u2_ : g135 ≤ k_ ∧ k_ < g135 + 1 := h2_; have := Z16.out; have := Z17.out; have := Z18.out; have := Z19.out; have := Z20.out; have := Z21.out; have := Z22.out; have := Z23.out; have := Z24.out; have := Z25.out; have := ZJ5.out; have := ZJ26.out; omega))
 have m6_ := xm (Kd.R_kept F84.out hk2_ (fun k_ h_ h2_ => by have u1_ := B88.out k_ h_; have u2_ : g135 ≤ k_ ∧ k_ < g135 + 1 := h2_; have := Z19.out; have := Z20.out; have := Z21.out; have := Z22.out; have := Z23.out; have := Z24.out; have := Z25.out; have := ZJ5.out; have := ZJ26.out; omega))
 have m7_ := xm (Kd.R_kept F90.out hk2_ (fun k_ h_ h2_ => by have u1_ := B94.out k_ h_; have u2_ : g135 ≤ k_ ∧ k_ < g135 + 1 := h2_; have := Z19.out; have := Z20.out; have := Z21.out; have := Z22.out; have := Z23.out; have := Z24.out; have := Z25.out; have := ZJ5.out; have := ZJ26.out; omega))
 have m8_ := xm (Kd.S_kept F131.out hk2_ (fun k_ h_ h2_ => by have u1_ := B133.out k_ h_; have u2_ : g135 ≤ k_ ∧ k_ < g135 + 1 := h2_; have := ZJ5.out; have := ZJ26.out; omega))
 have m9_ := xm (blk_kept BKg1.out hk2_ (fun h2_ => by have u1_ := GBg1.out; have u2_ : g135 ≤ g1 ∧ g1 < g135 + 1 := h2_; have := Z2.out; have := Z3.out; have := Z4.out; have := Z5.out; have := Z6.out; have := Z7.out; have := Z8.out; have := Z9.out; have := Z10.out; have := Z11.out; have := Z12.out; have := Z13.out; have := Z14.out; have := Z15.out; have := Z16.out; have := Z17.out; have := Z18.out; have := Z19.out; have := Z20.out; have := Z21.out; have := Z22.out; have := Z23.out; have := Z24.out; have := Z25.out; have := ZJ5.out; have := ZJ26.out; omega))
 have m10_ := xm (blk_kept BKg34.out hk2_ (fun h2_ => by have u1_ := GBg34.out; have u2_ : g135 ≤ g34 ∧ g34 < g135 + 1 := h2_; have := Z6.out; have := Z7.out; have := Z8.out; have := Z9.out; have := Z10.out; have := Z11.out; have := Z12.out; have := Z13.out; have := Z14.out; have := Z15.out; have := Z16.out; have := Z17.out; have := Z18.out; have := Z19.out; have := Z20.out; have := Z21.out; have := Z22.out; have := Z23.out; have := Z24.out; have := Z25.out; have := ZJ5.out; have := ZJ26.out; omega))
 have m11_ := xm (blk_kept BKg58.out hk2_ (fun h2_ => by have u1_ := GBg58.out; have u2_ : g135 ≤ g58 ∧ g58 < g135 + 1 := h2_; have := Z10.out; have := Z11.out; have := Z12.out; have := Z13.out; have := Z14.out; have := Z15.out; have := Z16.out; have := Z17.out; have := Z18.out; have := Z19.out; have := Z20.out; have := Z21.out; have := Z22.out; have := Z23.out; have := Z24.out; have := Z25.out; have := ZJ5.out; have := ZJ26.out; omega))
 have m12_ := xm (blk_kept BKg68.out hk2_ (fun h2_ => by have u1_ := GBg68.out; have u2_ : g135 ≤ g68 ∧ g68 < g135 + 1 := h2_; have := Z13.out; have := Z14.out; have := Z15.out; have := Z16.out; have := Z17.out; have := Z18.out; have := Z19.out; have := Z20.out; have := Z21.out; have := Z22.out; have := Z23.out; have := Z24.out; have := Z25.out; have := ZJ5.out; have := ZJ26.out; omega))
 clear F30 F39 F46 F52 F62 F75 F84 F90 F131 BKg1 BKg34 BKg58 BKg68
 have F30 := m0_
 have F39 := m1_
 have F46 := m2_
 have F52 := m3_
 have F62 := m4_
 have F75 := m5_
 have F84 := m6_
 have F90 := m7_
 have F131 := m8_
 have BKg1 := m9_
 have BKg34 := m10_
 have BKg58 := m11_
 have BKg68 := m12_
 clear m0_ m1_ m2_ m3_ m4_ m5_ m6_ m7_ m8_ m9_ m10_ m11_ m12_
 clear HB BKg135
 have HB := mb_
 have BKg135 := xm hx_
 clear mb_ hx_ hk_ hk2_ hw_ ge_
 refine hK.out _ _ ⟨((xc BKg1.out 0).trans rfl), ((xc BKg1.out 1).trans rfl)⟩ (fun hHeld => ?_)
 clear hK K
 refine px 11 12 4095 (by kernel_rfl) ?_
 refine done_ (by kernel_rfl) ?_
 (try clear hHeld)
 obtain ⟨hcg1_0, hfg1_0, hcg1_1, hfg1_1⟩ := laws_FnExactWitnessFor.cs2 BKg1.out
 obtain ⟨hcg34_0, hfg34_0, hcg34_1, hfg34_1⟩ := laws_FnExactWitnessFor.cs2 BKg34.out
 obtain ⟨hcg58_0, hfg58_0, hcg58_1, hfg58_1⟩ := laws_FnExactWitnessFor.cs2 BKg58.out
 obtain ⟨hcg68_0, hfg68_0, hcg68_1, hfg68_1⟩ := laws_FnExactWitnessFor.cs2 BKg68.out
 obtain ⟨hcg135_0, hfg135_0, hcg135_1, hfg135_1⟩ := laws_FnExactWitnessFor.cs2 BKg135.out
 go_wp2_with (first
  | ((with_reducible refine gate_callee (f := 10) rfl ?_); refine goesL_ (some 109) rfl rfl Try.func10 (by kernel_rfl) rfl #[.agg #[.int .i64 t128_0, .slice A129 t128_1.length c130], .agg #[.int .i64 t27_0, .slice A28 t27_1.length c29]] rfl mB ?_; refine (laws_eqTable.calls k t128_0 _ _ t128_1 t27_0 _ _ t27_1 true _ (Kd.S_reads' F131.out).2.2 (Kd.S_reads' F131.out).2.1 (Kd.S_reads' F30.out).2.2 (Kd.S_reads' F30.out).2.1 t139A.out).mono ?_; rintro e w28_ ⟨rfl, hb_⟩; refine ⟨_, rfl, ?_⟩; have Z28 := xm (hb_.size : w27_.heap.size ≤ w28_.heap.size); have hk_ := Kept.of_below hb_ (fun _ => False); have m0_ := xm (Kd.S_kept F30.out hk_ (fun _ _ h_ => h_)); have m1_ := xm (Kd.S_kept F39.out hk_ (fun _ _ h_ => h_)); have m2_ := xm (Kd.R_kept F46.out hk_ (fun _ _ h_ => h_)); have m3_ := xm (Kd.R_kept F52.out hk_ (fun _ _ h_ => h_)); have m4_ := xm (Kd.S_kept F62.out hk_ (fun _ _ h_ => h_)); have m5_ := xm (Kd.S_kept F75.out hk_ (fun _ _ h_ => h_)); have m6_ := xm (Kd.R_kept F84.out hk_ (fun _ _ h_ => h_)); have m7_ := xm (Kd.R_kept F90.out hk_ (fun _ _ h_ => h_)); have m8_ := xm (Kd.S_kept F131.out hk_ (fun _ _ h_ => h_)); have m9_ := xm (blk_kept BKg1.out hk_ (fun h_ => h_)); have m10_ := xm (blk_kept BKg34.out hk_ (fun h_ => h_)); have m11_ := xm (blk_kept BKg58.out hk_ (fun h_ => h_)); have m12_ := xm (blk_kept BKg68.out hk_ (fun h_ => h_)); have m13_ := xm (blk_kept BKg135.out hk_ (fun h_ => h_)); clear F30 F39 F46 F52 F62 F75 F84 F90 F131 BKg1 BKg34 BKg58 BKg68 BKg135; have F30 := m0_; have F39 := m1_; have F46 := m2_; have F52 := m3_; have F62 := m4_; have F75 := m5_; have F84 := m6_; have F90 := m7_; have F131 := m8_; have BKg1 := m9_; have BKg34 := m10_; have BKg58 := m11_; have BKg68 := m12_; have BKg135 := m13_; clear m0_ m1_ m2_ m3_ m4_ m5_ m6_ m7_ m8_ m9_ m10_ m11_ m12_ m13_; have m0_ := xm (below_step (w := w) HB.out hb_); clear HB; have HB := m0_; clear m0_ hb_ hk_; clear hcg1_0 hfg1_0 hcg1_1 hfg1_1; obtain ⟨hcg1_0, hfg1_0, hcg1_1, hfg1_1⟩ := laws_FnExactWitnessFor.cs2 BKg1.out; clear hcg34_0 hfg34_0 hcg34_1 hfg34_1; obtain ⟨hcg34_0, hfg34_0, hcg34_1, hfg34_1⟩ := laws_FnExactWitnessFor.cs2 BKg34.out; clear hcg58_0 hfg58_0 hcg58_1 hfg58_1; obtain ⟨hcg58_0, hfg58_0, hcg58_1, hfg58_1⟩ := laws_FnExactWitnessFor.cs2 BKg58.out; clear hcg68_0 hfg68_0 hcg68_1 hfg68_1; obtain ⟨hcg68_0, hfg68_0, hcg68_1, hfg68_1⟩ := laws_FnExactWitnessFor.cs2 BKg68.out; clear hcg135_0 hfg135_0 hcg135_1 hfg135_1; obtain ⟨hcg135_0, hfg135_0, hcg135_1, hfg135_1⟩ := laws_FnExactWitnessFor.cs2 BKg135.out)
  | ((with_reducible refine gate_callee (f := 16) rfl ?_); refine goesL_ (some 118) rfl rfl Try.func16 (by kernel_rfl) rfl #[.agg #[.int .i64 t61_0, .slice A63 t61_1.length c64], .int .i64 1] rfl mB ?_; refine calls_of_args (args' := #[.agg #[.int .i64 t61_0, .slice A63 t104_1.length c64], .int .i64 1]) (by simp only [LEF62.out]) ?_; refine (laws_heldTable.calls k t61_0 _ _ t104_1 1 t142_0 _ (Kd.S_reads' F62.out).2.2 (by have z_ := Kd.S_reads' F62.out; have y_ := z_.1; have x_ := z_.2.1; omega) t142A.out).mono ?_; rintro e w29_ ⟨rfl, hb_⟩; refine ⟨_, rfl, ?_⟩; have Z29 := xm (hb_.size : w28_.heap.size ≤ w29_.heap.size); have hk_ := Kept.of_below hb_ (fun _ => False); have m0_ := xm (Kd.S_kept F30.out hk_ (fun _ _ h_ => h_)); have m1_ := xm (Kd.S_kept F39.out hk_ (fun _ _ h_ => h_)); have m2_ := xm (Kd.R_kept F46.out hk_ (fun _ _ h_ => h_)); have m3_ := xm (Kd.R_kept F52.out hk_ (fun _ _ h_ => h_)); have m4_ := xm (Kd.S_kept F62.out hk_ (fun _ _ h_ => h_)); have m5_ := xm (Kd.S_kept F75.out hk_ (fun _ _ h_ => h_)); have m6_ := xm (Kd.R_kept F84.out hk_ (fun _ _ h_ => h_)); have m7_ := xm (Kd.R_kept F90.out hk_ (fun _ _ h_ => h_)); have m8_ := xm (Kd.S_kept F131.out hk_ (fun _ _ h_ => h_)); have m9_ := xm (blk_kept BKg1.out hk_ (fun h_ => h_)); have m10_ := xm (blk_kept BKg34.out hk_ (fun h_ => h_)); have m11_ := xm (blk_kept BKg58.out hk_ (fun h_ => h_)); have m12_ := xm (blk_kept BKg68.out hk_ (fun h_ => h_)); have m13_ := xm (blk_kept BKg135.out hk_ (fun h_ => h_)); clear F30 F39 F46 F52 F62 F75 F84 F90 F131 BKg1 BKg34 BKg58 BKg68 BKg135; have F30 := m0_; have F39 := m1_; have F46 := m2_; have F52 := m3_; have F62 := m4_; have F75 := m5_; have F84 := m6_; have F90 := m7_; have F131 := m8_; have BKg1 := m9_; have BKg34 := m10_; have BKg58 := m11_; have BKg68 := m12_; have BKg135 := m13_; clear m0_ m1_ m2_ m3_ m4_ m5_ m6_ m7_ m8_ m9_ m10_ m11_ m12_ m13_; have m0_ := xm (below_step (w := w) HB.out hb_); clear HB; have HB := m0_; clear m0_ hb_ hk_; clear hcg1_0 hfg1_0 hcg1_1 hfg1_1; obtain ⟨hcg1_0, hfg1_0, hcg1_1, hfg1_1⟩ := laws_FnExactWitnessFor.cs2 BKg1.out; clear hcg34_0 hfg34_0 hcg34_1 hfg34_1; obtain ⟨hcg34_0, hfg34_0, hcg34_1, hfg34_1⟩ := laws_FnExactWitnessFor.cs2 BKg34.out; clear hcg58_0 hfg58_0 hcg58_1 hfg58_1; obtain ⟨hcg58_0, hfg58_0, hcg58_1, hfg58_1⟩ := laws_FnExactWitnessFor.cs2 BKg58.out; clear hcg68_0 hfg68_0 hcg68_1 hfg68_1; obtain ⟨hcg68_0, hfg68_0, hcg68_1, hfg68_1⟩ := laws_FnExactWitnessFor.cs2 BKg68.out; clear hcg135_0 hfg135_0 hcg135_1 hfg135_1; obtain ⟨hcg135_0, hfg135_0, hcg135_1, hfg135_1⟩ := laws_FnExactWitnessFor.cs2 BKg135.out))
 go_wp2
 go_ret
 exact ⟨eB, HB.out⟩

/-- THE ONE PURE STATEMENT of laws_FnExactWitnessFor. -/
def laws_FnExactWitnessFor.Pure : Prop := ∀ x0 : List (S25), (x0.length ≤ 9223372036854775807 ∧ ∀ x0_ ∈ x0, wf25 x0_) → ∀ x1 : Int, (-9223372036854775808 ≤ x1 ∧ x1 ≤ 9223372036854775807) → ∀ x2 : S25, wf25 x2 → ∃ k, laws_FnExactWitnessFor.f k x0 x1 x2.f0 x2.f1 = some true

end Go.Proofs.Ytaddemalepndfah.G
