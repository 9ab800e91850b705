/- Written by a program of this claim's own, out of the translation: functions of the program as plain functions, and that the calls answer as these. No conditions. -/
import Derived.Test.YtcbikaoackbbjaaG0
import Derived.Test.YtcbikaoackbbjaaG1
import Derived.Test.YtcbikaoackbbjaaG2
import Derived.Test.YtcbikaoackbbjaaG4
import Derived.Test.YtcbikaoackbbjaaG8
import Derived.Test.YtcbikaoackbbjaaG9
namespace Go.Proofs.Ytcbikaoackbbjaa.G
open Go.RowKit Go.Proofs.Ytcbikaoackbbjaa.X Go.Proofs.YtcbikaoackbbjaaW.PrintWords Go.Proofs.YtcbikaoackbbjaaW.PrintLast Go.Proofs.YtcbikaoackbbjaaW.PrintMore
attribute [local go_sem] max2_int min2_int max_two min_two max_three min_three max_four min_four   -- for this text's walks alone
set_option linter.unusedVariables false
set_option linter.unusedSimpArgs false

/-! ### laws_FnExactJoinRows: function 9 -/
def laws_FnExactJoinRows.f (k : Nat) (l0_0 : List Int) (l1_0 : List Int) (l2 : List (List Int)) : Option (Bool) := (laws_szRow.f l0_0 1048576).bind fun t5b => (if t5b < 0 then (some true) else ((laws_szRow.f l1_0 t5b).bind fun t7b => (if t7b < 0 then (some true) else ((laws_szIntSS.f k l2 t7b).bind fun t9b => (if t9b < 0 then (some true) else ((laws_toRow.f k l0_0).bind fun t11b => ((laws_toRow.f k l1_0).bind fun t18b => ((laws_toIntSS.f k l2).bind fun t25b => ((spec_JoinRows.f k t11b t18b t25b).bind fun t32b => ((laws_toRow.f k l0_0).bind fun t43b => ((laws_toRow.f k l1_0).bind fun t53b => ((laws_toIntSS.f k l2).bind fun t63b => ((impl_JoinRows.f k t43b t53b t63b).bind fun t70b => ((laws_eqRow.f k t70b.1 t32b.1).bind fun t80b => (if t80b = true then (if (t70b.2 != t32b.2) = true then (some false) else ((laws_toRow.f k l0_0).bind fun t83b => ((laws_eqRow.f k t43b t83b).bind fun t90b => (if t90b = true then ((laws_toRow.f k l1_0).bind fun t92b => ((laws_eqRow.f k t53b t92b).bind fun t99b => (if t99b = true then ((laws_toIntSS.f k l2).bind fun t101b => ((laws_eqIntSS.f k t63b t101b).bind fun t108b => (if t108b = true then ((laws_markRow.f k t43b 1).bind fun t110b => ((laws_markRow.f k t53b t110b.1).bind fun t111b => ((laws_markIntSS.f k t63b t111b.1).bind fun t112b => (if t112b.1 < 0 then (some false) else ((laws_eqRow.f k t70b.1 t32b.1).bind fun t114b => (if t114b = true then (if (t70b.2 != t32b.2) = true then (some false) else ((laws_markRow.f k t70b.1 1).bind fun t117b => ((laws_heldRow.f k t117b.2 1).bind fun t118b => (if t118b < 0 then (some false) else (if t118b = t117b.1 then ((laws_toRow.f k l0_0).bind fun t121b => ((laws_toRow.f k l1_0).bind fun t128b => ((laws_toIntSS.f k l2).bind fun t135b => ((impl_JoinRows.f k t121b t128b t135b).bind fun t142b => ((laws_eqRow.f k t142b.1 t32b.1).bind fun t153b => (if t153b = true then (if (t142b.2 != t32b.2) = true then (some false) else ((laws_heldRow.f k t117b.2 1).bind fun t156b => (if t156b < 0 then (some false) else (if t156b = t117b.1 then ((some true)) else (some false))))) else (some false))))))) else (some false)))))) else (some false))))))) else (some false)))) else (some false)))) else (some false))))) else (some false))))))))))))))))
theorem laws_FnExactJoinRows.mono : ∀ a0_ a1_ a2_ k, LeO (laws_FnExactJoinRows.f k a0_ a1_ a2_) (laws_FnExactJoinRows.f (k + 1) a0_ a1_ a2_) := by
 intro a0_ a1_ a2_ k
 unfold laws_FnExactJoinRows.f
 repeat' first
  | (with_reducible exact impl_JoinRows.mono _ _ _ _)
  | (with_reducible exact laws_eqIntSS.mono _ _ _)
  | (with_reducible exact laws_eqRow.mono _ _ _)
  | (with_reducible exact laws_heldRow.mono _ _ _)
  | (with_reducible exact laws_markIntSS.mono _ _ _)
  | (with_reducible exact laws_markRow.mono _ _ _)
  | (with_reducible exact laws_szIntSS.mono _ _ _)
  | (with_reducible exact laws_toIntSS.mono _ _)
  | (with_reducible exact laws_toRow.mono _ _)
  | (with_reducible exact spec_JoinRows.mono _ _ _ _)
  | (with_reducible exact LeO.refl _)
  | (with_reducible exact LeO.none _)
  | (with_reducible refine LeO.ite ?_ ?_)
  | (with_reducible refine LeO.bind ?_ (fun _ => ?_))
  | exact impl_JoinRows.mono _ _ _ _
  | exact laws_eqIntSS.mono _ _ _
  | exact laws_eqRow.mono _ _ _
  | exact laws_heldRow.mono _ _ _
  | exact laws_markIntSS.mono _ _ _
  | exact laws_markRow.mono _ _ _
  | exact laws_szIntSS.mono _ _ _
  | exact laws_toIntSS.mono _ _
  | exact laws_toRow.mono _ _
  | exact spec_JoinRows.mono _ _ _ _
theorem laws_FnExactJoinRows.cs1 {w : World} {g t : Nat} {a0 : Value} (h : w.heap[g]? = some (.cells #[a0] t (0, 0))) : w.cell? ⟨g, 0, none⟩ = some a0 ∧ w.frozen? ⟨g, 0, none⟩ = false := ⟨(xc h 0).trans rfl, xf h 0⟩
set_option maxHeartbeats 8000000 in
set_option maxRecDepth 100000 in
theorem laws_FnExactJoinRows.calls (k : Nat) (A0_0 : Option Addr) (c0_0 : Nat) (l0_0 : List Int) (A1_0 : Option Addr) (c1_0 : Nat) (l1_0 : List Int) (A2 : Option Addr) (c2 : Nat) (l2 : List (List Int)) (w : World) (hr0_0 : Kd.C (Kd.int .i64) w A0_0 l0_0.length l0_0) (hc0_0 : l0_0.length ≤ c0_0) (hr1_0 : Kd.C (Kd.int .i64) w A1_0 l1_0.length l1_0) (hc1_0 : l1_0.length ≤ c1_0) (hr2 : Kd.C (Kd.slice 3 (Kd.int .i64)) w A2 l2.length l2) (hc2 : l2.length ≤ c2) (h : laws_FnExactJoinRows.f k l0_0 l1_0 l2 = some true) :
  Calls Try.prog 9 #[.agg #[.slice A0_0 l0_0.length c0_0], .agg #[.slice A1_0 l1_0.length c1_0], .slice A2 l2.length c2] w fun e w' => e = .returned (.bool true) ∧ Below w.heap.size w w' := by
 have hu24 := Try.underlying24
 have hu26 := Try.underlying26
 have HR0_0 := xm hr0_0
 have HC0_0 := xm hc0_0
 clear hr0_0 hc0_0
 have HR1_0 := xm hr1_0
 have HC1_0 := xm hc1_0
 clear hr1_0 hc1_0
 have HR2 := xm hr2
 have HC2 := xm hc2
 clear hr2 hc2
 have HB := xm (Below.refl w.heap.size w)
 unfold laws_FnExactJoinRows.f at h
 replace h := Option.bind_eq_some_iff.mp h
 obtain ⟨t5_0, t5A0, h⟩ := h
 (try dsimp only at h)
 have t5A := xm t5A0
 clear t5A0
 by_cases c6 : t5_0 < 0
 ·have c6b := decide_eq_true c6
  clear c6
  clear h
  go_enter Try.func9, Try.ntmps9
  go_wp2_with (first
   | ((with_reducible refine gate_dst (N := 3) rfl ?_); refine box_event ?hgq2 (N := 3) ?hdq2 (cs := #[.slice A0_0 l0_0.length c0_0]) (t := 24) ?hrq2 ?_; (case hdq2 => rfl); (case hgq2 => rfl); (case hrq2 => exact zB); intro g1 hg_ w1_ hbox_ hb_; have Z1 := xm (hb_.size : w.heap.size ≤ w1_.heap.size); have hk_ := Kept.of_below hb_ (fun _ => False); have m0_ := xm (below_step (w := w) HB.out hb_); clear HB; have HB := m0_; have BKg1 := xm hbox_; have GBg1 : Aside0 (w.heap.size ≤ g1 ∧ g1 < w1_.heap.size) := xm ⟨by rw [hg_]; exact Nat.le_refl _, blk_lt hbox_⟩; clear m0_ hb_ hbox_ hg_ hk_; obtain ⟨hcg1_0, hfg1_0⟩ := laws_FnExactJoinRows.cs1 BKg1.out)
   | ((with_reducible refine gate_dst (N := 4) rfl ?_); refine box_event ?hgq4 (N := 4) ?hdq4 (cs := #[.slice A1_0 l1_0.length c1_0]) (t := 24) ?hrq4 ?_; (case hdq4 => rfl); (case hgq4 => rfl); (case hrq4 => exact zB); intro g3 hg_ w2_ hbox_ hb_; have Z2 := xm (hb_.size : w1_.heap.size ≤ w2_.heap.size); have hk_ := Kept.of_below hb_ (fun _ => False); have m0_ := xm (blk_kept BKg1.out hk_ (fun h_ => h_)); clear BKg1; have BKg1 := m0_; clear m0_; have m0_ := xm (below_step (w := w) HB.out hb_); clear HB; have HB := m0_; have BKg3 := xm hbox_; have GBg3 : Aside0 (w1_.heap.size ≤ g3 ∧ g3 < w2_.heap.size) := xm ⟨by rw [hg_]; exact Nat.le_refl _, blk_lt hbox_⟩; clear m0_ hb_ hbox_ hg_ hk_; clear hcg1_0 hfg1_0; obtain ⟨hcg1_0, hfg1_0⟩ := laws_FnExactJoinRows.cs1 BKg1.out; obtain ⟨hcg3_0, hfg3_0⟩ := laws_FnExactJoinRows.cs1 BKg3.out)
   | ((with_reducible refine gate_callee (f := 18) rfl ?_); refine goesL_ (some 22) rfl rfl Try.func18 (by kernel_rfl) rfl #[.agg #[.slice A0_0 l0_0.length c0_0], .int .i64 1048576] rfl mB ?_; refine (laws_szRow.calls _ _ l0_0 1048576 t5_0 _ (Kd.C_below HR0_0.out HB.out) HC0_0.out t5A.out).mono ?_; rintro e w3_ ⟨rfl, hb_⟩; refine ⟨_, rfl, ?_⟩; have Z3 := xm (hb_.size : w2_.heap.size ≤ w3_.heap.size); have hk_ := Kept.of_below hb_ (fun _ => False); have m0_ := xm (blk_kept BKg1.out hk_ (fun h_ => h_)); have m1_ := xm (blk_kept BKg3.out hk_ (fun h_ => h_)); clear BKg1 BKg3; have BKg1 := m0_; have BKg3 := m1_; clear m0_ m1_; have m0_ := xm (below_step (w := w) HB.out hb_); clear HB; have HB := m0_; clear m0_ hb_ hk_; clear hcg1_0 hfg1_0; obtain ⟨hcg1_0, hfg1_0⟩ := laws_FnExactJoinRows.cs1 BKg1.out; clear hcg3_0 hfg3_0; obtain ⟨hcg3_0, hfg3_0⟩ := laws_FnExactJoinRows.cs1 BKg3.out))
  go_wp2
  go_ret
  exact ⟨by first | rfl | (simp [errW_none, errW_some] <;> rfl) | (simp [*, errW_none, errW_some] <;> rfl), HB.out⟩
 rw [if_neg c6] at h
 have c6b := decide_eq_false c6
 clear c6
 replace h := Option.bind_eq_some_iff.mp h
 obtain ⟨t7_0, t7A0, h⟩ := h
 (try dsimp only at h)
 have t7A := xm t7A0
 clear t7A0
 by_cases c8 : t7_0 < 0
 ·have c8b := decide_eq_true c8
  clear c8
  clear h
  go_enter Try.func9, Try.ntmps9
  go_wp2_with (first
   | ((with_reducible refine gate_dst (N := 3) rfl ?_); refine box_event ?hgq2 (N := 3) ?hdq2 (cs := #[.slice A0_0 l0_0.length c0_0]) (t := 24) ?hrq2 ?_; (case hdq2 => rfl); (case hgq2 => rfl); (case hrq2 => exact zB); intro g1 hg_ w1_ hbox_ hb_; have Z1 := xm (hb_.size : w.heap.size ≤ w1_.heap.size); have hk_ := Kept.of_below hb_ (fun _ => False); have m0_ := xm (below_step (w := w) HB.out hb_); clear HB; have HB := m0_; have BKg1 := xm hbox_; have GBg1 : Aside0 (w.heap.size ≤ g1 ∧ g1 < w1_.heap.size) := xm ⟨by rw [hg_]; exact Nat.le_refl _, blk_lt hbox_⟩; clear m0_ hb_ hbox_ hg_ hk_; obtain ⟨hcg1_0, hfg1_0⟩ := laws_FnExactJoinRows.cs1 BKg1.out)
   | ((with_reducible refine gate_dst (N := 4) rfl ?_); refine box_event ?hgq4 (N := 4) ?hdq4 (cs := #[.slice A1_0 l1_0.length c1_0]) (t := 24) ?hrq4 ?_; (case hdq4 => rfl); (case hgq4 => rfl); (case hrq4 => exact zB); intro g3 hg_ w2_ hbox_ hb_; have Z2 := xm (hb_.size : w1_.heap.size ≤ w2_.heap.size); have hk_ := Kept.of_below hb_ (fun _ => False); have m0_ := xm (blk_kept BKg1.out hk_ (fun h_ => h_)); clear BKg1; have BKg1 := m0_; clear m0_; have m0_ := xm (below_step (w := w) HB.out hb_); clear HB; have HB := m0_; have BKg3 := xm hbox_; have GBg3 : Aside0 (w1_.heap.size ≤ g3 ∧ g3 < w2_.heap.size) := xm ⟨by rw [hg_]; exact Nat.le_refl _, blk_lt hbox_⟩; clear m0_ hb_ hbox_ hg_ hk_; clear hcg1_0 hfg1_0; obtain ⟨hcg1_0, hfg1_0⟩ := laws_FnExactJoinRows.cs1 BKg1.out; obtain ⟨hcg3_0, hfg3_0⟩ := laws_FnExactJoinRows.cs1 BKg3.out)
   | ((with_reducible refine gate_callee (f := 18) rfl ?_); refine goesL_ (some 22) rfl rfl Try.func18 (by kernel_rfl) rfl #[.agg #[.slice A0_0 l0_0.length c0_0], .int .i64 1048576] rfl mB ?_; refine (laws_szRow.calls _ _ l0_0 1048576 t5_0 _ (Kd.C_below HR0_0.out HB.out) HC0_0.out t5A.out).mono ?_; rintro e w3_ ⟨rfl, hb_⟩; refine ⟨_, rfl, ?_⟩; have Z3 := xm (hb_.size : w2_.heap.size ≤ w3_.heap.size); have hk_ := Kept.of_below hb_ (fun _ => False); have m0_ := xm (blk_kept BKg1.out hk_ (fun h_ => h_)); have m1_ := xm (blk_kept BKg3.out hk_ (fun h_ => h_)); clear BKg1 BKg3; have BKg1 := m0_; have BKg3 := m1_; clear m0_ m1_; have m0_ := xm (below_step (w := w) HB.out hb_); clear HB; have HB := m0_; clear m0_ hb_ hk_; clear hcg1_0 hfg1_0; obtain ⟨hcg1_0, hfg1_0⟩ := laws_FnExactJoinRows.cs1 BKg1.out; clear hcg3_0 hfg3_0; obtain ⟨hcg3_0, hfg3_0⟩ := laws_FnExactJoinRows.cs1 BKg3.out)
   | ((with_reducible refine gate_callee (f := 18) rfl ?_); refine goesL_ (some 27) rfl rfl Try.func18 (by kernel_rfl) rfl #[.agg #[.slice A1_0 l1_0.length c1_0], .int .i64 t5_0] rfl mB ?_; refine (laws_szRow.calls _ _ l1_0 t5_0 t7_0 _ (Kd.C_below HR1_0.out HB.out) HC1_0.out t7A.out).mono ?_; rintro e w4_ ⟨rfl, hb_⟩; refine ⟨_, rfl, ?_⟩; have Z4 := xm (hb_.size : w3_.heap.size ≤ w4_.heap.size); have hk_ := Kept.of_below hb_ (fun _ => False); have m0_ := xm (blk_kept BKg1.out hk_ (fun h_ => h_)); have m1_ := xm (blk_kept BKg3.out hk_ (fun h_ => h_)); clear BKg1 BKg3; have BKg1 := m0_; have BKg3 := m1_; clear m0_ m1_; have m0_ := xm (below_step (w := w) HB.out hb_); clear HB; have HB := m0_; clear m0_ hb_ hk_; clear hcg1_0 hfg1_0; obtain ⟨hcg1_0, hfg1_0⟩ := laws_FnExactJoinRows.cs1 BKg1.out; clear hcg3_0 hfg3_0; obtain ⟨hcg3_0, hfg3_0⟩ := laws_FnExactJoinRows.cs1 BKg3.out))
  go_wp2
  go_ret
  exact ⟨by first | rfl | (simp [errW_none, errW_some] <;> rfl) | (simp [*, errW_none, errW_some] <;> rfl), HB.out⟩
 rw [if_neg c8] at h
 have c8b := decide_eq_false c8
 clear c8
 replace h := Option.bind_eq_some_iff.mp h
 obtain ⟨t9_0, t9A0, h⟩ := h
 (try dsimp only at h)
 have t9A := xm t9A0
 clear t9A0
 by_cases c10 : t9_0 < 0
 ·have c10b := decide_eq_true c10
  clear c10
  clear h
  go_enter Try.func9, Try.ntmps9
  go_wp2_with (first
   | ((with_reducible refine gate_dst (N := 3) rfl ?_); refine box_event ?hgq2 (N := 3) ?hdq2 (cs := #[.slice A0_0 l0_0.length c0_0]) (t := 24) ?hrq2 ?_; (case hdq2 => rfl); (case hgq2 => rfl); (case hrq2 => exact zB); intro g1 hg_ w1_ hbox_ hb_; have Z1 := xm (hb_.size : w.heap.size ≤ w1_.heap.size); have hk_ := Kept.of_below hb_ (fun _ => False); have m0_ := xm (below_step (w := w) HB.out hb_); clear HB; have HB := m0_; have BKg1 := xm hbox_; have GBg1 : Aside0 (w.heap.size ≤ g1 ∧ g1 < w1_.heap.size) := xm ⟨by rw [hg_]; exact Nat.le_refl _, blk_lt hbox_⟩; clear m0_ hb_ hbox_ hg_ hk_; obtain ⟨hcg1_0, hfg1_0⟩ := laws_FnExactJoinRows.cs1 BKg1.out)
   | ((with_reducible refine gate_dst (N := 4) rfl ?_); refine box_event ?hgq4 (N := 4) ?hdq4 (cs := #[.slice A1_0 l1_0.length c1_0]) (t := 24) ?hrq4 ?_; (case hdq4 => rfl); (case hgq4 => rfl); (case hrq4 => exact zB); intro g3 hg_ w2_ hbox_ hb_; have Z2 := xm (hb_.size : w1_.heap.size ≤ w2_.heap.size); have hk_ := Kept.of_below hb_ (fun _ => False); have m0_ := xm (blk_kept BKg1.out hk_ (fun h_ => h_)); clear BKg1; have BKg1 := m0_; clear m0_; have m0_ := xm (below_step (w := w) HB.out hb_); clear HB; have HB := m0_; have BKg3 := xm hbox_; have GBg3 : Aside0 (w1_.heap.size ≤ g3 ∧ g3 < w2_.heap.size) := xm ⟨by rw [hg_]; exact Nat.le_refl _, blk_lt hbox_⟩; clear m0_ hb_ hbox_ hg_ hk_; clear hcg1_0 hfg1_0; obtain ⟨hcg1_0, hfg1_0⟩ := laws_FnExactJoinRows.cs1 BKg1.out; obtain ⟨hcg3_0, hfg3_0⟩ := laws_FnExactJoinRows.cs1 BKg3.out)
   | ((with_reducible refine gate_callee (f := 18) rfl ?_); refine goesL_ (some 22) rfl rfl Try.func18 (by kernel_rfl) rfl #[.agg #[.slice A0_0 l0_0.length c0_0], .int .i64 1048576] rfl mB ?_; refine (laws_szRow.calls _ _ l0_0 1048576 t5_0 _ (Kd.C_below HR0_0.out HB.out) HC0_0.out t5A.out).mono ?_; rintro e w3_ ⟨rfl, hb_⟩; refine ⟨_, rfl, ?_⟩; have Z3 := xm (hb_.size : w2_.heap.size ≤ w3_.heap.size); have hk_ := Kept.of_below hb_ (fun _ => False); have m0_ := xm (blk_kept BKg1.out hk_ (fun h_ => h_)); have m1_ := xm (blk_kept BKg3.out hk_ (fun h_ => h_)); clear BKg1 BKg3; have BKg1 := m0_; have BKg3 := m1_; clear m0_ m1_; have m0_ := xm (below_step (w := w) HB.out hb_); clear HB; have HB := m0_; clear m0_ hb_ hk_; clear hcg1_0 hfg1_0; obtain ⟨hcg1_0, hfg1_0⟩ := laws_FnExactJoinRows.cs1 BKg1.out; clear hcg3_0 hfg3_0; obtain ⟨hcg3_0, hfg3_0⟩ := laws_FnExactJoinRows.cs1 BKg3.out)
   | ((with_reducible refine gate_callee (f := 18) rfl ?_); refine goesL_ (some 27) rfl rfl Try.func18 (by kernel_rfl) rfl #[.agg #[.slice A1_0 l1_0.length c1_0], .int .i64 t5_0] rfl mB ?_; refine (laws_szRow.calls _ _ l1_0 t5_0 t7_0 _ (Kd.C_below HR1_0.out HB.out) HC1_0.out t7A.out).mono ?_; rintro e w4_ ⟨rfl, hb_⟩; refine ⟨_, rfl, ?_⟩; have Z4 := xm (hb_.size : w3_.heap.size ≤ w4_.heap.size); have hk_ := Kept.of_below hb_ (fun _ => False); have m0_ := xm (blk_kept BKg1.out hk_ (fun h_ => h_)); have m1_ := xm (blk_kept BKg3.out hk_ (fun h_ => h_)); clear BKg1 BKg3; have BKg1 := m0_; have BKg3 := m1_; clear m0_ m1_; have m0_ := xm (below_step (w := w) HB.out hb_); clear HB; have HB := m0_; clear m0_ hb_ hk_; clear hcg1_0 hfg1_0; obtain ⟨hcg1_0, hfg1_0⟩ := laws_FnExactJoinRows.cs1 BKg1.out; clear hcg3_0 hfg3_0; obtain ⟨hcg3_0, hfg3_0⟩ := laws_FnExactJoinRows.cs1 BKg3.out)
   | ((with_reducible refine gate_callee (f := 52) rfl ?_); refine goesL_ (some 32) rfl rfl Try.func52 (by kernel_rfl) rfl #[.slice A2 l2.length c2, .int .i64 t7_0] rfl mB ?_; refine (laws_szIntSS.calls k _ _ l2 t7_0 t9_0 _ (Kd.C_below HR2.out HB.out) HC2.out t9A.out).mono ?_; rintro e w5_ ⟨rfl, hb_⟩; refine ⟨_, rfl, ?_⟩; replace hb_ := hb_.below; have Z5 := xm (hb_.size : w4_.heap.size ≤ w5_.heap.size); have hk_ := Kept.of_below hb_ (fun _ => False); have m0_ := xm (blk_kept BKg1.out hk_ (fun h_ => h_)); have m1_ := xm (blk_kept BKg3.out hk_ (fun h_ => h_)); clear BKg1 BKg3; have BKg1 := m0_; have BKg3 := m1_; clear m0_ m1_; have m0_ := xm (below_step (w := w) HB.out hb_); clear HB; have HB := m0_; clear m0_ hb_ hk_; clear hcg1_0 hfg1_0; obtain ⟨hcg1_0, hfg1_0⟩ := laws_FnExactJoinRows.cs1 BKg1.out; clear hcg3_0 hfg3_0; obtain ⟨hcg3_0, hfg3_0⟩ := laws_FnExactJoinRows.cs1 BKg3.out))
  go_wp2
  go_ret
  exact ⟨by first | rfl | (simp [errW_none, errW_some] <;> rfl) | (simp [*, errW_none, errW_some] <;> rfl), HB.out⟩
 rw [if_neg c10] at h
 have c10b := decide_eq_false c10
 clear c10
 replace h := Option.bind_eq_some_iff.mp h
 obtain ⟨t11_0, t11A0, h⟩ := h
 (try dsimp only at h)
 have t11A := xm t11A0
 clear t11A0
 replace h := Option.bind_eq_some_iff.mp h
 obtain ⟨t18_0, t18A0, h⟩ := h
 (try dsimp only at h)
 have t18A := xm t18A0
 clear t18A0
 replace h := Option.bind_eq_some_iff.mp h
 obtain ⟨t25_0, t25A0, h⟩ := h
 (try dsimp only at h)
 have t25A := xm t25A0
 clear t25A0
 replace h := Option.bind_eq_some_iff.mp h
 obtain ⟨⟨t32_0, t32_1⟩, t32A0, h⟩ := h
 (try dsimp only at h)
 have t32A := xm t32A0
 clear t32A0
 replace h := Option.bind_eq_some_iff.mp h
 obtain ⟨t43_0, t43A0, h⟩ := h
 (try dsimp only at h)
 have t43A := xm t43A0
 clear t43A0
 replace h := Option.bind_eq_some_iff.mp h
 obtain ⟨t53_0, t53A0, h⟩ := h
 (try dsimp only at h)
 have t53A := xm t53A0
 clear t53A0
 replace h := Option.bind_eq_some_iff.mp h
 obtain ⟨t63_0, t63A0, h⟩ := h
 (try dsimp only at h)
 have t63A := xm t63A0
 clear t63A0
 replace h := Option.bind_eq_some_iff.mp h
 obtain ⟨⟨t70_0, t70_1⟩, t70A0, h⟩ := h
 (try dsimp only at h)
 have t70A := xm t70A0
 clear t70A0
 replace h := Option.bind_eq_some_iff.mp h
 obtain ⟨t80_0, t80A0, h⟩ := h
 (try dsimp only at h)
 have t80A := xm t80A0
 clear t80A0
 replace h := law_t h
 obtain ⟨c81, h⟩ := h
 subst c81
 replace h := law_f h
 obtain ⟨c82, h⟩ := h
 have c82b0 : (t70_1 != t32_1) = false := by simpa using c82
 have c82b1 : decide (t70_1 = t32_1) = true := by simpa using c82
 have c82b2 : (t70_1 == t32_1) = true := by simpa using c82
 clear c82
 replace h := Option.bind_eq_some_iff.mp h
 obtain ⟨t83_0, t83A0, h⟩ := h
 (try dsimp only at h)
 have t83A := xm t83A0
 clear t83A0
 replace h := Option.bind_eq_some_iff.mp h
 obtain ⟨t90_0, t90A0, h⟩ := h
 (try dsimp only at h)
 have t90A := xm t90A0
 clear t90A0
 replace h := law_t h
 obtain ⟨c91, h⟩ := h
 subst c91
 replace h := Option.bind_eq_some_iff.mp h
 obtain ⟨t92_0, t92A0, h⟩ := h
 (try dsimp only at h)
 have t92A := xm t92A0
 clear t92A0
 replace h := Option.bind_eq_some_iff.mp h
 obtain ⟨t99_0, t99A0, h⟩ := h
 (try dsimp only at h)
 have t99A := xm t99A0
 clear t99A0
 replace h := law_t h
 obtain ⟨c100, h⟩ := h
 subst c100
 replace h := Option.bind_eq_some_iff.mp h
 obtain ⟨t101_0, t101A0, h⟩ := h
 (try dsimp only at h)
 have t101A := xm t101A0
 clear t101A0
 replace h := Option.bind_eq_some_iff.mp h
 obtain ⟨t108_0, t108A0, h⟩ := h
 (try dsimp only at h)
 have t108A := xm t108A0
 clear t108A0
 replace h := law_t h
 obtain ⟨c109, h⟩ := h
 subst c109
 replace h := Option.bind_eq_some_iff.mp h
 obtain ⟨⟨t110_0, t110_1⟩, t110A0, h⟩ := h
 (try dsimp only at h)
 have t110A := xm t110A0
 clear t110A0
 replace h := Option.bind_eq_some_iff.mp h
 obtain ⟨⟨t111_0, t111_1⟩, t111A0, h⟩ := h
 (try dsimp only at h)
 have t111A := xm t111A0
 clear t111A0
 replace h := Option.bind_eq_some_iff.mp h
 obtain ⟨⟨t112_0, t112_1⟩, t112A0, h⟩ := h
 (try dsimp only at h)
 have t112A := xm t112A0
 clear t112A0
 replace h := law_f h
 obtain ⟨c113, h⟩ := h
 have c113b := decide_eq_false c113
 clear c113
 replace h := Option.bind_eq_some_iff.mp h
 obtain ⟨t114_0, t114A0, h⟩ := h
 (try dsimp only at h)
 have t114A := xm t114A0
 clear t114A0
 replace h := law_t h
 obtain ⟨c115, h⟩ := h
 subst c115
 replace h := law_f h
 obtain ⟨c116, h⟩ := h
 have c116b0 : (t70_1 != t32_1) = false := by simpa using c116
 have c116b1 : decide (t70_1 = t32_1) = true := by simpa using c116
 have c116b2 : (t70_1 == t32_1) = true := by simpa using c116
 clear c116
 replace h := Option.bind_eq_some_iff.mp h
 obtain ⟨⟨t117_0, t117_1⟩, t117A0, h⟩ := h
 (try dsimp only at h)
 have t117A := xm t117A0
 clear t117A0
 replace h := Option.bind_eq_some_iff.mp h
 obtain ⟨t118_0, t118A0, h⟩ := h
 (try dsimp only at h)
 have t118A := xm t118A0
 clear t118A0
 replace h := law_f h
 obtain ⟨c119, h⟩ := h
 have c119b := decide_eq_false c119
 clear c119
 replace h := law_t h
 obtain ⟨c120, h⟩ := h
 have c120b0 : (t118_0 == t117_0) = true := beq_iff_eq.mpr c120
 have c120b1 : (t118_0 != t117_0) = false := bne_eq_false_iff_eq.mpr c120
 have c120b2 : decide (t118_0 = t117_0) = true := decide_eq_true c120
 clear c120
 replace h := Option.bind_eq_some_iff.mp h
 obtain ⟨t121_0, t121A0, h⟩ := h
 (try dsimp only at h)
 have t121A := xm t121A0
 clear t121A0
 replace h := Option.bind_eq_some_iff.mp h
 obtain ⟨t128_0, t128A0, h⟩ := h
 (try dsimp only at h)
 have t128A := xm t128A0
 clear t128A0
 replace h := Option.bind_eq_some_iff.mp h
 obtain ⟨t135_0, t135A0, h⟩ := h
 (try dsimp only at h)
 have t135A := xm t135A0
 clear t135A0
 replace h := Option.bind_eq_some_iff.mp h
 obtain ⟨⟨t142_0, t142_1⟩, t142A0, h⟩ := h
 (try dsimp only at h)
 have t142A := xm t142A0
 clear t142A0
 replace h := Option.bind_eq_some_iff.mp h
 obtain ⟨t153_0, t153A0, h⟩ := h
 (try dsimp only at h)
 have t153A := xm t153A0
 clear t153A0
 replace h := law_t h
 obtain ⟨c154, h⟩ := h
 subst c154
 replace h := law_f h
 obtain ⟨c155, h⟩ := h
 have c155b0 : (t142_1 != t32_1) = false := by simpa using c155
 have c155b1 : decide (t142_1 = t32_1) = true := by simpa using c155
 have c155b2 : (t142_1 == t32_1) = true := by simpa using c155
 clear c155
 replace h := Option.bind_eq_some_iff.mp h
 obtain ⟨t156_0, t156A0, h⟩ := h
 (try dsimp only at h)
 have t156A := xm t156A0
 clear t156A0
 replace h := law_f h
 obtain ⟨c157, h⟩ := h
 have c157b := decide_eq_false c157
 clear c157
 replace h := law_t h
 obtain ⟨c158, h⟩ := h
 have c158b0 : (t156_0 == t117_0) = true := beq_iff_eq.mpr c158
 have c158b1 : (t156_0 != t117_0) = false := bne_eq_false_iff_eq.mpr c158
 have c158b2 : decide (t156_0 = t117_0) = true := decide_eq_true c158
 clear c158
 clear h
 go_enter Try.func9, Try.ntmps9
 go_wp2_with (first
  | ((with_reducible refine gate_dst (N := 3) rfl ?_); refine box_event ?hgq2 (N := 3) ?hdq2 (cs := #[.slice A0_0 l0_0.length c0_0]) (t := 24) ?hrq2 ?_; (case hdq2 => rfl); (case hgq2 => rfl); (case hrq2 => exact zB); intro g1 hg_ w1_ hbox_ hb_; have Z1 := xm (hb_.size : w.heap.size ≤ w1_.heap.size); have hk_ := Kept.of_below hb_ (fun _ => False); have m0_ := xm (below_step (w := w) HB.out hb_); clear HB; have HB := m0_; have BKg1 := xm hbox_; have GBg1 : Aside0 (w.heap.size ≤ g1 ∧ g1 < w1_.heap.size) := xm ⟨by rw [hg_]; exact Nat.le_refl _, blk_lt hbox_⟩; clear m0_ hb_ hbox_ hg_ hk_; obtain ⟨hcg1_0, hfg1_0⟩ := laws_FnExactJoinRows.cs1 BKg1.out)
  | ((with_reducible refine gate_dst (N := 4) rfl ?_); refine box_event ?hgq4 (N := 4) ?hdq4 (cs := #[.slice A1_0 l1_0.length c1_0]) (t := 24) ?hrq4 ?_; (case hdq4 => rfl); (case hgq4 => rfl); (case hrq4 => exact zB); intro g3 hg_ w2_ hbox_ hb_; have Z2 := xm (hb_.size : w1_.heap.size ≤ w2_.heap.size); have hk_ := Kept.of_below hb_ (fun _ => False); have m0_ := xm (blk_kept BKg1.out hk_ (fun h_ => h_)); clear BKg1; have BKg1 := m0_; clear m0_; have m0_ := xm (below_step (w := w) HB.out hb_); clear HB; have HB := m0_; have BKg3 := xm hbox_; have GBg3 : Aside0 (w1_.heap.size ≤ g3 ∧ g3 < w2_.heap.size) := xm ⟨by rw [hg_]; exact Nat.le_refl _, blk_lt hbox_⟩; clear m0_ hb_ hbox_ hg_ hk_; clear hcg1_0 hfg1_0; obtain ⟨hcg1_0, hfg1_0⟩ := laws_FnExactJoinRows.cs1 BKg1.out; obtain ⟨hcg3_0, hfg3_0⟩ := laws_FnExactJoinRows.cs1 BKg3.out)
  | ((with_reducible refine gate_callee (f := 18) rfl ?_); refine goesL_ (some 22) rfl rfl Try.func18 (by kernel_rfl) rfl #[.agg #[.slice A0_0 l0_0.length c0_0], .int .i64 1048576] rfl mB ?_; refine (laws_szRow.calls _ _ l0_0 1048576 t5_0 _ (Kd.C_below HR0_0.out HB.out) HC0_0.out t5A.out).mono ?_; rintro e w3_ ⟨rfl, hb_⟩; refine ⟨_, rfl, ?_⟩; have Z3 := xm (hb_.size : w2_.heap.size ≤ w3_.heap.size); have hk_ := Kept.of_below hb_ (fun _ => False); have m0_ := xm (blk_kept BKg1.out hk_ (fun h_ => h_)); have m1_ := xm (blk_kept BKg3.out hk_ (fun h_ => h_)); clear BKg1 BKg3; have BKg1 := m0_; have BKg3 := m1_; clear m0_ m1_; have m0_ := xm (below_step (w := w) HB.out hb_); clear HB; have HB := m0_; clear m0_ hb_ hk_; clear hcg1_0 hfg1_0; obtain ⟨hcg1_0, hfg1_0⟩ := laws_FnExactJoinRows.cs1 BKg1.out; clear hcg3_0 hfg3_0; obtain ⟨hcg3_0, hfg3_0⟩ := laws_FnExactJoinRows.cs1 BKg3.out)
  | ((with_reducible refine gate_callee (f := 18) rfl ?_); refine goesL_ (some 27) rfl rfl Try.func18 (by kernel_rfl) rfl #[.agg #[.slice A1_0 l1_0.length c1_0], .int .i64 t5_0] rfl mB ?_; refine (laws_szRow.calls _ _ l1_0 t5_0 t7_0 _ (Kd.C_below HR1_0.out HB.out) HC1_0.out t7A.out).mono ?_; rintro e w4_ ⟨rfl, hb_⟩; refine ⟨_, rfl, ?_⟩; have Z4 := xm (hb_.size : w3_.heap.size ≤ w4_.heap.size); have hk_ := Kept.of_below hb_ (fun _ => False); have m0_ := xm (blk_kept BKg1.out hk_ (fun h_ => h_)); have m1_ := xm (blk_kept BKg3.out hk_ (fun h_ => h_)); clear BKg1 BKg3; have BKg1 := m0_; have BKg3 := m1_; clear m0_ m1_; have m0_ := xm (below_step (w := w) HB.out hb_); clear HB; have HB := m0_; clear m0_ hb_ hk_; clear hcg1_0 hfg1_0; obtain ⟨hcg1_0, hfg1_0⟩ := laws_FnExactJoinRows.cs1 BKg1.out; clear hcg3_0 hfg3_0; obtain ⟨hcg3_0, hfg3_0⟩ := laws_FnExactJoinRows.cs1 BKg3.out)
  | ((with_reducible refine gate_callee (f := 52) rfl ?_); refine goesL_ (some 32) rfl rfl Try.func52 (by kernel_rfl) rfl #[.slice A2 l2.length c2, .int .i64 t7_0] rfl mB ?_; refine (laws_szIntSS.calls k _ _ l2 t7_0 t9_0 _ (Kd.C_below HR2.out HB.out) HC2.out t9A.out).mono ?_; rintro e w5_ ⟨rfl, hb_⟩; refine ⟨_, rfl, ?_⟩; replace hb_ := hb_.below; have Z5 := xm (hb_.size : w4_.heap.size ≤ w5_.heap.size); have hk_ := Kept.of_below hb_ (fun _ => False); have m0_ := xm (blk_kept BKg1.out hk_ (fun h_ => h_)); have m1_ := xm (blk_kept BKg3.out hk_ (fun h_ => h_)); clear BKg1 BKg3; have BKg1 := m0_; have BKg3 := m1_; clear m0_ m1_; have m0_ := xm (below_step (w := w) HB.out hb_); clear HB; have HB := m0_; clear m0_ hb_ hk_; clear hcg1_0 hfg1_0; obtain ⟨hcg1_0, hfg1_0⟩ := laws_FnExactJoinRows.cs1 BKg1.out; clear hcg3_0 hfg3_0; obtain ⟨hcg3_0, hfg3_0⟩ := laws_FnExactJoinRows.cs1 BKg3.out))
 have hk_ := Kept.drew (Kept.refl w5_ (fun _ => False))
 have m0_ := xm (blk_kept BKg1.out hk_ (fun h_ => h_))
 have m1_ := xm (blk_kept BKg3.out hk_ (fun h_ => h_))
 clear BKg1 BKg3
 have BKg1 := m0_
 have BKg3 := m1_
 clear m0_ m1_
 have m0_ := xm (xd HB.out)
 clear HB hk_
 have HB := m0_
 clear m0_
 have Z6 : Aside0 (w5_.heap.size ≤ w5_.drew.heap.size) := xm (Nat.le_refl _)
 refine start_ (n := 13) (S := fun w' => w'.cell? ⟨g1, 0, none⟩ = some (.slice A0_0 l0_0.length c0_0) ∧ w'.cell? ⟨g3, 0, none⟩ = some (.slice A1_0 l1_0.length c1_0)) (ds := []) #[Z,Z,Z,Z,Z,Z,Z,Z,Z,Z,Z,Z,Z] (by kernel_rfl) rfl rfl ⟨((xc BKg1.out 0).trans rfl), ((xc BKg3.out 0).trans rfl)⟩ (fun hHeld => ?_)
 generalize w5_.drew = w6_ at BKg1 BKg3 Z6 HB hHeld ⊢
 refine tx 0 13 1 rfl rfl (by kernel_rfl) hHeld (by rintro w' ⟨s0, s1⟩; go_simp; with_reducible rfl) ?_
 refine tx 2 13 5 rfl rfl (by kernel_rfl) hHeld (by rintro w' ⟨s0, s1⟩; go_simp; with_reducible rfl) ?_
 refine px 4 13 21 (by kernel_rfl) ?_
 refine join_ (σ := Value × Value × Value × Value × Value × Value × Value × Value) 2 #[Y,Y,Y,Y,Y,Y,Y,Y,Y,Y,Y,Z,Z] (fun s_ => [(37, s_.1), (39, s_.2.1), (41, s_.2.2.1), (42, s_.2.2.2.1), (8, s_.2.2.2.2.1), (35, s_.2.2.2.2.2.1), (43, s_.2.2.2.2.2.2.1), (44, s_.2.2.2.2.2.2.2)]) (fun s_ w' => ∃ (g39 n40 n41 : Nat) (A33 : Option Addr) (c34 : Nat) (P36 : Nat → Prop), s_.2.2.2.1 = .tuple #[.agg #[.slice A33 t32_0.length c34], .bool t32_1] ∧ s_.2.2.2.2.1 = .pointer (some ⟨g39, 0, none⟩) ∧ s_.2.2.2.2.2.1 = .tuple #[.agg #[.slice A33 t32_0.length c34], .bool t32_1] ∧ s_.2.2.2.2.2.2.1 = .agg #[.slice A33 t32_0.length c34] ∧ s_.2.2.2.2.2.2.2 = .bool t32_1 ∧ w'.heap[g39]? = some (.cells #[.slice none 0 0] 26 (0, 0)) ∧ Below w6_.heap.size w6_ w' ∧ (w6_.heap.size ≤ g39 ∧ g39 < w'.heap.size ∧ w6_.heap.size ≤ n40 ∧ n40 ≤ n41 ∧ n41 ≤ w'.heap.size ∧ (g39 < n40 ∨ n41 ≤ g39)) ∧ Kd.R (Kd.int .i64) 3 w' w.heap.size P36 (.slice A33 t32_0.length c34) t32_0 ∧ (∀ k_, P36 k_ → n40 ≤ k_ ∧ k_ < n41) ∧ (∀ k_, P36 k_ → some k_ = (.slice A33 t32_0.length c34 : Value).ownBlock ∧ (True))) ?_ (fun hJ => ?_)
 rotate_left
 ·have HL := xm (Below.refl w6_.heap.size w6_)
  refine two_ (i := 1) (j := 10) (Ni := some 37) (Nj := some 8) #[Y,Y,Y,Z,Y,Z,Z,Z,Z,Z,Z,Z,Z] #[Y,Z,Y,Z,Y,Z,Z,Z,Z,Z,Y,Z,Z] rfl rfl rfl rfl (by kernel_rfl) (by decide) (by decide) (fun K hK => ?_) (fun K hK => ?_)
  ·refine goes_ Try.func20 (by kernel_rfl) rfl #[.agg #[.slice A0_0 l0_0.length c0_0]] (by rfl) rfl rfl mB ?_
   refine (laws_toRow.calls k _ _ l0_0 t11_0 _ (Kd.C_below (Kd.C_below HR0_0.out HB.out) HL.out) HC0_0.out t11A.out).mono ?_
   rintro e wl4_ ⟨v0_, rfl, h0_, hb_⟩
   refine ⟨_, rfl, ?_⟩
   obtain ⟨A12, c13, rfl⟩ := Kd.R_slice h0_
   have F14 := xm h0_
   have ml_ := xm (below_step HL.out hb_)
   clear HL
   have HL := ml_
   clear ml_
   clear h0_
   clear hb_
   refine hK.out _ _ ⟨(pw_cell_below HL.out ((xc BKg1.out 0).trans rfl)), (pw_cell_below HL.out ((xc BKg3.out 0).trans rfl))⟩ (fun hHeld => ?_)
   clear hK K
   refine norm_ (a' := ?_) ?_ ?_
   rotate_left
   ·show Act.put _ (some 37) _ = _
    simp only [Act.put, xi, xj, xk, i64_w, i32_w]
    rfl
   refine two_ (i := 3) (j := 10) (Ni := some 39) (Nj := some 8) #[Y,Y,Y,Y,Y,Z,Z,Z,Z,Z,Z,Z,Z] #[Y,Y,Y,Z,Y,Z,Z,Z,Z,Z,Y,Z,Z] rfl rfl rfl rfl (by kernel_rfl) (by decide) (by decide) (fun K hK => ?_) (fun K hK => ?_)
   ·refine goes_ Try.func20 (by kernel_rfl) rfl #[.agg #[.slice A1_0 l1_0.length c1_0]] (by rfl) rfl rfl mB ?_
    refine (laws_toRow.calls k _ _ l1_0 t18_0 _ (Kd.C_below (Kd.C_below HR1_0.out HB.out) HL.out) HC1_0.out t18A.out).mono ?_
    rintro e wl5_ ⟨v0_, rfl, h0_, hb_⟩
    refine ⟨_, rfl, ?_⟩
    obtain ⟨A19, c20, rfl⟩ := Kd.R_slice h0_
    have F21 := xm h0_
    have ml_ := xm (below_step HL.out hb_)
    clear HL
    have HL := ml_
    clear ml_
    clear h0_
    have mk_ := xm (Kd.R_below F14.out hb_)
    clear F14
    have F14 := mk_
    clear mk_
    clear hb_
    refine hK.out _ _ ⟨(pw_cell_below HL.out ((xc BKg1.out 0).trans rfl)), (pw_cell_below HL.out ((xc BKg3.out 0).trans rfl))⟩ (fun hHeld => ?_)
    clear hK K
    refine norm_ (a' := ?_) ?_ ?_
    rotate_left
    ·show Act.put _ (some 39) _ = _
     simp only [Act.put, xi, xj, xk, i64_w, i32_w]
     rfl
    refine two_ (i := 5) (j := 10) (Ni := some 41) (Nj := some 8) #[Y,Y,Y,Y,Y,Y,Z,Z,Z,Z,Z,Z,Z] #[Y,Y,Y,Y,Y,Z,Z,Z,Z,Z,Y,Z,Z] rfl rfl rfl rfl (by kernel_rfl) (by decide) (by decide) (fun K hK => ?_) (fun K hK => ?_)
    ·refine goes_ Try.func54 (by kernel_rfl) rfl #[.slice A2 l2.length c2] (by rfl) rfl rfl mB ?_
     refine (laws_toIntSS.calls k _ _ l2 t25_0 _ (Kd.C_below (Kd.C_below HR2.out HB.out) HL.out) HC2.out t25A.out).mono ?_
     rintro e wl6_ ⟨v0_, rfl, h0_, hb_⟩
     refine ⟨_, rfl, ?_⟩
     obtain ⟨A26, c27, rfl⟩ := Kd.S_slice h0_
     have F28 := xm h0_
     have ml_ := xm (below_step HL.out hb_)
     clear HL
     have HL := ml_
     clear ml_
     clear h0_
     have mk_ := xm (Kd.R_below F14.out hb_)
     clear F14
     have F14 := mk_
     clear mk_
     have mk_ := xm (Kd.R_below F21.out hb_)
     clear F21
     have F21 := mk_
     clear mk_
     clear hb_
     refine hK.out _ _ ⟨(pw_cell_below HL.out ((xc BKg1.out 0).trans rfl)), (pw_cell_below HL.out ((xc BKg3.out 0).trans rfl))⟩ (fun hHeld => ?_)
     clear hK K
     refine norm_ (a' := ?_) ?_ ?_
     rotate_left
     ·show Act.put _ (some 41) _ = _
      simp only [Act.put, xi, xj, xk, i64_w, i32_w]
      rfl
     refine two_ (i := 6) (j := 10) (Ni := some 42) (Nj := some 8) #[Y,Y,Y,Y,Y,Y,Y,Z,Z,Z,Z,Z,Z] #[Y,Y,Y,Y,Y,Y,Z,Z,Z,Z,Y,Z,Z] rfl rfl rfl rfl (by kernel_rfl) (by decide) (by decide) (fun K hK => ?_) (fun K hK => ?_)
     ·refine goes_ Try.func53 (by kernel_rfl) rfl #[.agg #[.slice A12 t11_0.length c13], .agg #[.slice A19 t18_0.length c20], .slice A26 t25_0.length c27] (by rfl) rfl rfl mB ?_
      refine (spec_JoinRows.calls k _ _ t11_0 _ _ t18_0 _ _ t25_0 t32_0 t32_1 _ (Kd.R_reads' F14.out).2.2 (Kd.R_reads' F14.out).2.1 (Kd.R_reads' F21.out).2.2 (Kd.R_reads' F21.out).2.1 (Kd.S_reads' F28.out).2.2 (Kd.S_reads' F28.out).2.1 t32A.out).mono ?_
      rintro e wl7_ ⟨v0_, rfl, h0_, hb_⟩
      refine ⟨_, rfl, ?_⟩
      obtain ⟨A33, c34, rfl⟩ := Kd.R_slice h0_
      obtain ⟨P36, p1_, p2_, p3_⟩ := hideT (base := w.heap.size) rfl h0_ (Nat.le_trans HB.out.size HL.out.size)
      have F35 := xm p1_
      have B37 := xm p2_
      have T38 := xm p3_
      clear p1_ p2_ p3_
      have HP_ := xm HL.out.size
      have GL_ := xm (Nat.le_refl 0)
      have ml_ := xm (below_step HL.out hb_)
      clear HL
      have HL := ml_
      clear ml_
      clear h0_
      have mk_ := xm (Kd.R_below F14.out hb_)
      clear F14
      have F14 := mk_
      clear mk_
      have mk_ := xm (Kd.R_below F21.out hb_)
      clear F21
      have F21 := mk_
      clear mk_
      have mk_ := xm (Kd.S_below F28.out hb_)
      clear F28
      have F28 := mk_
      clear mk_
      obtain ⟨nlo_, hnlo_⟩ : ∃ q_, q_ = wl6_.heap.size := ⟨_, rfl⟩
      obtain ⟨nhi_, hnhi_⟩ : ∃ q_, q_ = wl7_.heap.size := ⟨_, rfl⟩
      have mB_ : Aside0 (∀ k_, P36 k_ → nlo_ ≤ k_ ∧ k_ < nhi_) := xm (by rw [hnlo_, hnhi_]; exact B37.out)
      clear B37
      have B37 := mB_
      clear mB_
      have ZL : Aside0 (w6_.heap.size ≤ nlo_ ∧ nlo_ ≤ nhi_ ∧ nhi_ ≤ wl7_.heap.size) := xm (by have z1_ := HP_.out; have z2_ := hb_.size; omega)
      clear hnlo_ hnhi_
      clear hb_
      refine hK.out _ _ ⟨(pw_cell_below HL.out ((xc BKg1.out 0).trans rfl)), (pw_cell_below HL.out ((xc BKg3.out 0).trans rfl))⟩ (fun hHeld => ?_)
      clear hK K
      refine norm_ (a' := ?_) ?_ ?_
      rotate_left
      ·show Act.put _ (some 42) _ = _
       simp only [Act.put, xi, xj, xk, i64_w, i32_w]
       rfl
      refine px 7 13 255 (by kernel_rfl) ?_
      refine px 8 13 511 (by kernel_rfl) ?_
      refine px 9 13 1023 (by kernel_rfl) ?_
      refine one_ (i := 10) (N := some 8) #[Y,Y,Y,Y,Y,Y,Y,Y,Y,Y,Y,Z,Z] rfl rfl (by kernel_rfl) (by decide) (fun K hK => ?_)
      refine value_ (v := .pointer (some ⟨wl7_.heap.size, 0, none⟩)) (w1 := wl7_.alloc (.cells #[.slice none 0 0] 26 (0, 0))) (by rfl) rfl zB ?_
      obtain ⟨wl11_, gq_, hgq_, hwq_, hbq_⟩ : ∃ (W_ : World) (g_ : Nat), g_ = wl7_.heap.size ∧ W_ = wl7_.alloc (.cells #[.slice none 0 0] 26 (0, 0)) ∧ True := ⟨_, _, rfl, rfl, trivial⟩
      rw [← hwq_, ← hgq_]
      have hb_ : Below wl7_.heap.size wl7_ wl11_ := by rw [hwq_]; exact xa (Below.refl _ _) _
      have BQ : Aside0 (wl11_.heap[gq_]? = some (.cells #[.slice none 0 0] 26 (0, 0))) := xm (by rw [hwq_, hgq_]; exact blk_new _ _)
      have ZQ : Aside0 (w6_.heap.size ≤ gq_ ∧ gq_ < wl11_.heap.size ∧ w6_.heap.size ≤ nlo_ ∧ nlo_ ≤ nhi_ ∧ nhi_ ≤ wl11_.heap.size ∧ (gq_ < nlo_ ∨ nhi_ ≤ gq_)) := xm (by have z1_ := ZL.out; have z2_ := hb_.size; have z3_ := blk_lt BQ.out; have z4_ := HL.out.size; omega)
      have ml_ := xm (below_step HL.out hb_)
      clear HL
      have HL := ml_
      clear ml_
      have mk_ := xm (Kd.R_below F14.out hb_)
      clear F14
      have F14 := mk_
      clear mk_
      have mk_ := xm (Kd.R_below F21.out hb_)
      clear F21
      have F21 := mk_
      clear mk_
      have mk_ := xm (Kd.S_below F28.out hb_)
      clear F28
      have F28 := mk_
      clear mk_
      have mk_ := xm (Kd.R_below F35.out hb_)
      clear F35
      have F35 := mk_
      clear mk_
      clear hb_ hgq_ hwq_ hbq_
      refine hK.out _ _ ⟨(pw_cell_below HL.out ((xc BKg1.out 0).trans rfl)), (pw_cell_below HL.out ((xc BKg3.out 0).trans rfl))⟩ (fun hHeld => ?_)
      clear hK K
      refine norm_ (a' := ?_) ?_ ?_
      rotate_left
      ·show Act.put _ (some 8) _ = _
       simp only [Act.put, xi, xj, xk, i64_w, i32_w]
       rfl
      exact norm_ pB (hJ (.agg #[.slice A12 t11_0.length c13], .agg #[.slice A19 t18_0.length c20], .slice A26 t25_0.length c27, .tuple #[.agg #[.slice A33 t32_0.length c34], .bool t32_1], .pointer (some ⟨gq_, 0, none⟩), .tuple #[.agg #[.slice A33 t32_0.length c34], .bool t32_1], .agg #[.slice A33 t32_0.length c34], .bool t32_1) _ ⟨gq_, nlo_, nhi_, A33, c34, P36, rfl, rfl, rfl, rfl, rfl, BQ.out, HL.out, ZQ.out, F35.out, B37.out, T38.out⟩)
     ·refine value_ (v := .pointer (some ⟨wl6_.heap.size, 0, none⟩)) (w1 := wl6_.alloc (.cells #[.slice none 0 0] 26 (0, 0))) (by rfl) rfl zB ?_
      obtain ⟨wl7_, gq_, hgq_, hwq_, hbq_⟩ : ∃ (W_ : World) (g_ : Nat), g_ = wl6_.heap.size ∧ W_ = wl6_.alloc (.cells #[.slice none 0 0] 26 (0, 0)) ∧ True := ⟨_, _, rfl, rfl, trivial⟩
      rw [← hwq_, ← hgq_]
      have hb_ : Below wl6_.heap.size wl6_ wl7_ := by rw [hwq_]; exact xa (Below.refl _ _) _
      have BQ : Aside0 (wl7_.heap[gq_]? = some (.cells #[.slice none 0 0] 26 (0, 0))) := xm (by rw [hwq_, hgq_]; exact blk_new _ _)
      have GQ := xm (show w6_.heap.size ≤ gq_ ∧ gq_ < wl7_.heap.size from ⟨by rw [hgq_]; exact HL.out.size, blk_lt BQ.out⟩)
      have ml_ := xm (below_step HL.out hb_)
      clear HL
      have HL := ml_
      clear ml_
      have mk_ := xm (Kd.R_below F14.out hb_)
      clear F14
      have F14 := mk_
      clear mk_
      have mk_ := xm (Kd.R_below F21.out hb_)
      clear F21
      have F21 := mk_
      clear mk_
      have mk_ := xm (Kd.S_below F28.out hb_)
      clear F28
      have F28 := mk_
      clear mk_
      clear hb_ hgq_ hwq_ hbq_
      refine hK.out _ _ ⟨(pw_cell_below HL.out ((xc BKg1.out 0).trans rfl)), (pw_cell_below HL.out ((xc BKg3.out 0).trans rfl))⟩ (fun hHeld => ?_)
      clear hK K
      refine norm_ (a' := ?_) ?_ ?_
      rotate_left
      ·show Act.put _ (some 8) _ = _
       simp only [Act.put, xi, xj, xk, i64_w, i32_w]
       rfl
      refine one_ (i := 6) (N := some 42) #[Y,Y,Y,Y,Y,Y,Y,Z,Z,Z,Y,Z,Z] rfl rfl (by kernel_rfl) (by decide) (fun K hK => ?_)
      refine goes_ Try.func53 (by kernel_rfl) rfl #[.agg #[.slice A12 t11_0.length c13], .agg #[.slice A19 t18_0.length c20], .slice A26 t25_0.length c27] (by rfl) rfl rfl mB ?_
      refine (spec_JoinRows.calls k _ _ t11_0 _ _ t18_0 _ _ t25_0 t32_0 t32_1 _ (Kd.R_reads' F14.out).2.2 (Kd.R_reads' F14.out).2.1 (Kd.R_reads' F21.out).2.2 (Kd.R_reads' F21.out).2.1 (Kd.S_reads' F28.out).2.2 (Kd.S_reads' F28.out).2.1 t32A.out).mono ?_
      rintro e wl8_ ⟨v0_, rfl, h0_, hb_⟩
      refine ⟨_, rfl, ?_⟩
      obtain ⟨A33, c34, rfl⟩ := Kd.R_slice h0_
      obtain ⟨P36, p1_, p2_, p3_⟩ := hideT (base := w.heap.size) rfl h0_ (Nat.le_trans HB.out.size HL.out.size)
      have F35 := xm p1_
      have B37 := xm p2_
      have T38 := xm p3_
      clear p1_ p2_ p3_
      have HP_ := xm HL.out.size
      have GL_ := xm (Nat.le_refl 0)
      have ml_ := xm (below_step HL.out hb_)
      clear HL
      have HL := ml_
      clear ml_
      clear h0_
      have GL_ := xm (blk_lt BQ.out)
      have mq_ := xm (blk_below BQ.out hb_)
      clear BQ
      have BQ := mq_
      clear mq_
      have mk_ := xm (Kd.R_below F14.out hb_)
      clear F14
      have F14 := mk_
      clear mk_
      have mk_ := xm (Kd.R_below F21.out hb_)
      clear F21
      have F21 := mk_
      clear mk_
      have mk_ := xm (Kd.S_below F28.out hb_)
      clear F28
      have F28 := mk_
      clear mk_
      obtain ⟨nlo_, hnlo_⟩ : ∃ q_, q_ = wl7_.heap.size := ⟨_, rfl⟩
      obtain ⟨nhi_, hnhi_⟩ : ∃ q_, q_ = wl8_.heap.size := ⟨_, rfl⟩
      have mB_ : Aside0 (∀ k_, P36 k_ → nlo_ ≤ k_ ∧ k_ < nhi_) := xm (by rw [hnlo_, hnhi_]; exact B37.out)
      clear B37
      have B37 := mB_
      clear mB_
      have ZQ : Aside0 (w6_.heap.size ≤ gq_ ∧ gq_ < wl8_.heap.size ∧ w6_.heap.size ≤ nlo_ ∧ nlo_ ≤ nhi_ ∧ nhi_ ≤ wl8_.heap.size ∧ (gq_ < nlo_ ∨ nhi_ ≤ gq_)) := xm (by have z1_ := GL_.out; have z2_ := hb_.size; have z3_ := GQ.out; have z4_ := blk_lt BQ.out; have z5_ := HP_.out; omega)
      clear hnlo_ hnhi_
      clear hb_
      refine hK.out _ _ ⟨(pw_cell_below HL.out ((xc BKg1.out 0).trans rfl)), (pw_cell_below HL.out ((xc BKg3.out 0).trans rfl))⟩ (fun hHeld => ?_)
      clear hK K
      refine norm_ (a' := ?_) ?_ ?_
      rotate_left
      ·show Act.put _ (some 42) _ = _
       simp only [Act.put, xi, xj, xk, i64_w, i32_w]
       rfl
      refine px 7 13 1279 (by kernel_rfl) ?_
      refine px 8 13 1535 (by kernel_rfl) ?_
      refine px 9 13 2047 (by kernel_rfl) ?_
      exact norm_ pB (hJ (.agg #[.slice A12 t11_0.length c13], .agg #[.slice A19 t18_0.length c20], .slice A26 t25_0.length c27, .tuple #[.agg #[.slice A33 t32_0.length c34], .bool t32_1], .pointer (some ⟨gq_, 0, none⟩), .tuple #[.agg #[.slice A33 t32_0.length c34], .bool t32_1], .agg #[.slice A33 t32_0.length c34], .bool t32_1) _ ⟨gq_, nlo_, nhi_, A33, c34, P36, rfl, rfl, rfl, rfl, rfl, BQ.out, HL.out, ZQ.out, F35.out, B37.out, T38.out⟩)
    ·refine value_ (v := .pointer (some ⟨wl5_.heap.size, 0, none⟩)) (w1 := wl5_.alloc (.cells #[.slice none 0 0] 26 (0, 0))) (by rfl) rfl zB ?_
     obtain ⟨wl6_, gq_, hgq_, hwq_, hbq_⟩ : ∃ (W_ : World) (g_ : Nat), g_ = wl5_.heap.size ∧ W_ = wl5_.alloc (.cells #[.slice none 0 0] 26 (0, 0)) ∧ True := ⟨_, _, rfl, rfl, trivial⟩
     rw [← hwq_, ← hgq_]
     have hb_ : Below wl5_.heap.size wl5_ wl6_ := by rw [hwq_]; exact xa (Below.refl _ _) _
     have BQ : Aside0 (wl6_.heap[gq_]? = some (.cells #[.slice none 0 0] 26 (0, 0))) := xm (by rw [hwq_, hgq_]; exact blk_new _ _)
     have GQ := xm (show w6_.heap.size ≤ gq_ ∧ gq_ < wl6_.heap.size from ⟨by rw [hgq_]; exact HL.out.size, blk_lt BQ.out⟩)
     have ml_ := xm (below_step HL.out hb_)
     clear HL
     have HL := ml_
     clear ml_
     have mk_ := xm (Kd.R_below F14.out hb_)
     clear F14
     have F14 := mk_
     clear mk_
     have mk_ := xm (Kd.R_below F21.out hb_)
     clear F21
     have F21 := mk_
     clear mk_
     clear hb_ hgq_ hwq_ hbq_
     refine hK.out _ _ ⟨(pw_cell_below HL.out ((xc BKg1.out 0).trans rfl)), (pw_cell_below HL.out ((xc BKg3.out 0).trans rfl))⟩ (fun hHeld => ?_)
     clear hK K
     refine norm_ (a' := ?_) ?_ ?_
     rotate_left
     ·show Act.put _ (some 8) _ = _
      simp only [Act.put, xi, xj, xk, i64_w, i32_w]
      rfl
     refine one_ (i := 5) (N := some 41) #[Y,Y,Y,Y,Y,Y,Z,Z,Z,Z,Y,Z,Z] rfl rfl (by kernel_rfl) (by decide) (fun K hK => ?_)
     refine goes_ Try.func54 (by kernel_rfl) rfl #[.slice A2 l2.length c2] (by rfl) rfl rfl mB ?_
     refine (laws_toIntSS.calls k _ _ l2 t25_0 _ (Kd.C_below (Kd.C_below HR2.out HB.out) HL.out) HC2.out t25A.out).mono ?_
     rintro e wl7_ ⟨v0_, rfl, h0_, hb_⟩
     refine ⟨_, rfl, ?_⟩
     obtain ⟨A26, c27, rfl⟩ := Kd.S_slice h0_
     have F28 := xm h0_
     have ml_ := xm (below_step HL.out hb_)
     clear HL
     have HL := ml_
     clear ml_
     clear h0_
     have GL_ := xm (blk_lt BQ.out)
     have mq_ := xm (blk_below BQ.out hb_)
     clear BQ
     have BQ := mq_
     clear mq_
     have mk_ := xm (Kd.R_below F14.out hb_)
     clear F14
     have F14 := mk_
     clear mk_
     have mk_ := xm (Kd.R_below F21.out hb_)
     clear F21
     have F21 := mk_
     clear mk_
     clear hb_
     refine hK.out _ _ ⟨(pw_cell_below HL.out ((xc BKg1.out 0).trans rfl)), (pw_cell_below HL.out ((xc BKg3.out 0).trans rfl))⟩ (fun hHeld => ?_)
     clear hK K
     refine norm_ (a' := ?_) ?_ ?_
     rotate_left
     ·show Act.put _ (some 41) _ = _
      simp only [Act.put, xi, xj, xk, i64_w, i32_w]
      rfl
     refine one_ (i := 6) (N := some 42) #[Y,Y,Y,Y,Y,Y,Y,Z,Z,Z,Y,Z,Z] rfl rfl (by kernel_rfl) (by decide) (fun K hK => ?_)
     refine goes_ Try.func53 (by kernel_rfl) rfl #[.agg #[.slice A12 t11_0.length c13], .agg #[.slice A19 t18_0.length c20], .slice A26 t25_0.length c27] (by rfl) rfl rfl mB ?_
     refine (spec_JoinRows.calls k _ _ t11_0 _ _ t18_0 _ _ t25_0 t32_0 t32_1 _ (Kd.R_reads' F14.out).2.2 (Kd.R_reads' F14.out).2.1 (Kd.R_reads' F21.out).2.2 (Kd.R_reads' F21.out).2.1 (Kd.S_reads' F28.out).2.2 (Kd.S_reads' F28.out).2.1 t32A.out).mono ?_
     rintro e wl8_ ⟨v0_, rfl, h0_, hb_⟩
     refine ⟨_, rfl, ?_⟩
     obtain ⟨A33, c34, rfl⟩ := Kd.R_slice h0_
     obtain ⟨P36, p1_, p2_, p3_⟩ := hideT (base := w.heap.size) rfl h0_ (Nat.le_trans HB.out.size HL.out.size)
     have F35 := xm p1_
     have B37 := xm p2_
     have T38 := xm p3_
     clear p1_ p2_ p3_
     have HP_ := xm HL.out.size
     have GL_ := xm (Nat.le_refl 0)
     have ml_ := xm (below_step HL.out hb_)
     clear HL
     have HL := ml_
     clear ml_
     clear h0_
     have GL_ := xm (blk_lt BQ.out)
     have mq_ := xm (blk_below BQ.out hb_)
     clear BQ
     have BQ := mq_
     clear mq_
     have mk_ := xm (Kd.R_below F14.out hb_)
     clear F14
     have F14 := mk_
     clear mk_
     have mk_ := xm (Kd.R_below F21.out hb_)
     clear F21
     have F21 := mk_
     clear mk_
     have mk_ := xm (Kd.S_below F28.out hb_)
     clear F28
     have F28 := mk_
     clear mk_
     obtain ⟨nlo_, hnlo_⟩ : ∃ q_, q_ = wl7_.heap.size := ⟨_, rfl⟩
     obtain ⟨nhi_, hnhi_⟩ : ∃ q_, q_ = wl8_.heap.size := ⟨_, rfl⟩
     have mB_ : Aside0 (∀ k_, P36 k_ → nlo_ ≤ k_ ∧ k_ < nhi_) := xm (by rw [hnlo_, hnhi_]; exact B37.out)
     clear B37
     have B37 := mB_
     clear mB_
     have ZQ : Aside0 (w6_.heap.size ≤ gq_ ∧ gq_ < wl8_.heap.size ∧ w6_.heap.size ≤ nlo_ ∧ nlo_ ≤ nhi_ ∧ nhi_ ≤ wl8_.heap.size ∧ (gq_ < nlo_ ∨ nhi_ ≤ gq_)) := xm (by have z1_ := GL_.out; have z2_ := hb_.size; have z3_ := GQ.out; have z4_ := blk_lt BQ.out; have z5_ := HP_.out; omega)
     clear hnlo_ hnhi_
     clear hb_
     refine hK.out _ _ ⟨(pw_cell_below HL.out ((xc BKg1.out 0).trans rfl)), (pw_cell_below HL.out ((xc BKg3.out 0).trans rfl))⟩ (fun hHeld => ?_)
     clear hK K
     refine norm_ (a' := ?_) ?_ ?_
     rotate_left
     ·show Act.put _ (some 42) _ = _
      simp only [Act.put, xi, xj, xk, i64_w, i32_w]
      rfl
     refine px 7 13 1279 (by kernel_rfl) ?_
     refine px 8 13 1535 (by kernel_rfl) ?_
     refine px 9 13 2047 (by kernel_rfl) ?_
     exact norm_ pB (hJ (.agg #[.slice A12 t11_0.length c13], .agg #[.slice A19 t18_0.length c20], .slice A26 t25_0.length c27, .tuple #[.agg #[.slice A33 t32_0.length c34], .bool t32_1], .pointer (some ⟨gq_, 0, none⟩), .tuple #[.agg #[.slice A33 t32_0.length c34], .bool t32_1], .agg #[.slice A33 t32_0.length c34], .bool t32_1) _ ⟨gq_, nlo_, nhi_, A33, c34, P36, rfl, rfl, rfl, rfl, rfl, BQ.out, HL.out, ZQ.out, F35.out, B37.out, T38.out⟩)
   ·refine value_ (v := .pointer (some ⟨wl4_.heap.size, 0, none⟩)) (w1 := wl4_.alloc (.cells #[.slice none 0 0] 26 (0, 0))) (by rfl) rfl zB ?_
    obtain ⟨wl5_, gq_, hgq_, hwq_, hbq_⟩ : ∃ (W_ : World) (g_ : Nat), g_ = wl4_.heap.size ∧ W_ = wl4_.alloc (.cells #[.slice none 0 0] 26 (0, 0)) ∧ True := ⟨_, _, rfl, rfl, trivial⟩
    rw [← hwq_, ← hgq_]
    have hb_ : Below wl4_.heap.size wl4_ wl5_ := by rw [hwq_]; exact xa (Below.refl _ _) _
    have BQ : Aside0 (wl5_.heap[gq_]? = some (.cells #[.slice none 0 0] 26 (0, 0))) := xm (by rw [hwq_, hgq_]; exact blk_new _ _)
    have GQ := xm (show w6_.heap.size ≤ gq_ ∧ gq_ < wl5_.heap.size from ⟨by rw [hgq_]; exact HL.out.size, blk_lt BQ.out⟩)
    have ml_ := xm (below_step HL.out hb_)
    clear HL
    have HL := ml_
    clear ml_
    have mk_ := xm (Kd.R_below F14.out hb_)
    clear F14
    have F14 := mk_
    clear mk_
    clear hb_ hgq_ hwq_ hbq_
    refine hK.out _ _ ⟨(pw_cell_below HL.out ((xc BKg1.out 0).trans rfl)), (pw_cell_below HL.out ((xc BKg3.out 0).trans rfl))⟩ (fun hHeld => ?_)
    clear hK K
    refine norm_ (a' := ?_) ?_ ?_
    rotate_left
    ·show Act.put _ (some 8) _ = _
     simp only [Act.put, xi, xj, xk, i64_w, i32_w]
     rfl
    refine one_ (i := 3) (N := some 39) #[Y,Y,Y,Y,Y,Z,Z,Z,Z,Z,Y,Z,Z] rfl rfl (by kernel_rfl) (by decide) (fun K hK => ?_)
    refine goes_ Try.func20 (by kernel_rfl) rfl #[.agg #[.slice A1_0 l1_0.length c1_0]] (by rfl) rfl rfl mB ?_
    refine (laws_toRow.calls k _ _ l1_0 t18_0 _ (Kd.C_below (Kd.C_below HR1_0.out HB.out) HL.out) HC1_0.out t18A.out).mono ?_
    rintro e wl6_ ⟨v0_, rfl, h0_, hb_⟩
    refine ⟨_, rfl, ?_⟩
    obtain ⟨A19, c20, rfl⟩ := Kd.R_slice h0_
    have F21 := xm h0_
    have ml_ := xm (below_step HL.out hb_)
    clear HL
    have HL := ml_
    clear ml_
    clear h0_
    have GL_ := xm (blk_lt BQ.out)
    have mq_ := xm (blk_below BQ.out hb_)
    clear BQ
    have BQ := mq_
    clear mq_
    have mk_ := xm (Kd.R_below F14.out hb_)
    clear F14
    have F14 := mk_
    clear mk_
    clear hb_
    refine hK.out _ _ ⟨(pw_cell_below HL.out ((xc BKg1.out 0).trans rfl)), (pw_cell_below HL.out ((xc BKg3.out 0).trans rfl))⟩ (fun hHeld => ?_)
    clear hK K
    refine norm_ (a' := ?_) ?_ ?_
    rotate_left
    ·show Act.put _ (some 39) _ = _
     simp only [Act.put, xi, xj, xk, i64_w, i32_w]
     rfl
    refine one_ (i := 5) (N := some 41) #[Y,Y,Y,Y,Y,Y,Z,Z,Z,Z,Y,Z,Z] rfl rfl (by kernel_rfl) (by decide) (fun K hK => ?_)
    refine goes_ Try.func54 (by kernel_rfl) rfl #[.slice A2 l2.length c2] (by rfl) rfl rfl mB ?_
    refine (laws_toIntSS.calls k _ _ l2 t25_0 _ (Kd.C_below (Kd.C_below HR2.out HB.out) HL.out) HC2.out t25A.out).mono ?_
    rintro e wl7_ ⟨v0_, rfl, h0_, hb_⟩
    refine ⟨_, rfl, ?_⟩
    obtain ⟨A26, c27, rfl⟩ := Kd.S_slice h0_
    have F28 := xm h0_
    have ml_ := xm (below_step HL.out hb_)
    clear HL
    have HL := ml_
    clear ml_
    clear h0_
    have GL_ := xm (blk_lt BQ.out)
    have mq_ := xm (blk_below BQ.out hb_)
    clear BQ
    have BQ := mq_
    clear mq_
    have mk_ := xm (Kd.R_below F14.out hb_)
    clear F14
    have F14 := mk_
    clear mk_
    have mk_ := xm (Kd.R_below F21.out hb_)
    clear F21
    have F21 := mk_
    clear mk_
    clear hb_
    refine hK.out _ _ ⟨(pw_cell_below HL.out ((xc BKg1.out 0).trans rfl)), (pw_cell_below HL.out ((xc BKg3.out 0).trans rfl))⟩ (fun hHeld => ?_)
    clear hK K
    refine norm_ (a' := ?_) ?_ ?_
    rotate_left
    ·show Act.put _ (some 41) _ = _
     simp only [Act.put, xi, xj, xk, i64_w, i32_w]
     rfl
    refine one_ (i := 6) (N := some 42) #[Y,Y,Y,Y,Y,Y,Y,Z,Z,Z,Y,Z,Z] rfl rfl (by kernel_rfl) (by decide) (fun K hK => ?_)
    refine goes_ Try.func53 (by kernel_rfl) rfl #[.agg #[.slice A12 t11_0.length c13], .agg #[.slice A19 t18_0.length c20], .slice A26 t25_0.length c27] (by rfl) rfl rfl mB ?_
    refine (spec_JoinRows.calls k _ _ t11_0 _ _ t18_0 _ _ t25_0 t32_0 t32_1 _ (Kd.R_reads' F14.out).2.2 (Kd.R_reads' F14.out).2.1 (Kd.R_reads' F21.out).2.2 (Kd.R_reads' F21.out).2.1 (Kd.S_reads' F28.out).2.2 (Kd.S_reads' F28.out).2.1 t32A.out).mono ?_
    rintro e wl8_ ⟨v0_, rfl, h0_, hb_⟩
    refine ⟨_, rfl, ?_⟩
    obtain ⟨A33, c34, rfl⟩ := Kd.R_slice h0_
    obtain ⟨P36, p1_, p2_, p3_⟩ := hideT (base := w.heap.size) rfl h0_ (Nat.le_trans HB.out.size HL.out.size)
    have F35 := xm p1_
    have B37 := xm p2_
    have T38 := xm p3_
    clear p1_ p2_ p3_
    have HP_ := xm HL.out.size
    have GL_ := xm (Nat.le_refl 0)
    have ml_ := xm (below_step HL.out hb_)
    clear HL
    have HL := ml_
    clear ml_
    clear h0_
    have GL_ := xm (blk_lt BQ.out)
    have mq_ := xm (blk_below BQ.out hb_)
    clear BQ
    have BQ := mq_
    clear mq_
    have mk_ := xm (Kd.R_below F14.out hb_)
    clear F14
    have F14 := mk_
    clear mk_
    have mk_ := xm (Kd.R_below F21.out hb_)
    clear F21
    have F21 := mk_
    clear mk_
    have mk_ := xm (Kd.S_below F28.out hb_)
    clear F28
    have F28 := mk_
    clear mk_
    obtain ⟨nlo_, hnlo_⟩ : ∃ q_, q_ = wl7_.heap.size := ⟨_, rfl⟩
    obtain ⟨nhi_, hnhi_⟩ : ∃ q_, q_ = wl8_.heap.size := ⟨_, rfl⟩
    have mB_ : Aside0 (∀ k_, P36 k_ → nlo_ ≤ k_ ∧ k_ < nhi_) := xm (by rw [hnlo_, hnhi_]; exact B37.out)
    clear B37
    have B37 := mB_
    clear mB_
    have ZQ : Aside0 (w6_.heap.size ≤ gq_ ∧ gq_ < wl8_.heap.size ∧ w6_.heap.size ≤ nlo_ ∧ nlo_ ≤ nhi_ ∧ nhi_ ≤ wl8_.heap.size ∧ (gq_ < nlo_ ∨ nhi_ ≤ gq_)) := xm (by have z1_ := GL_.out; have z2_ := hb_.size; have z3_ := GQ.out; have z4_ := blk_lt BQ.out; have z5_ := HP_.out; omega)
    clear hnlo_ hnhi_
    clear hb_
    refine hK.out _ _ ⟨(pw_cell_below HL.out ((xc BKg1.out 0).trans rfl)), (pw_cell_below HL.out ((xc BKg3.out 0).trans rfl))⟩ (fun hHeld => ?_)
    clear hK K
    refine norm_ (a' := ?_) ?_ ?_
    rotate_left
    ·show Act.put _ (some 42) _ = _
     simp only [Act.put, xi, xj, xk, i64_w, i32_w]
     rfl
    refine px 7 13 1279 (by kernel_rfl) ?_
    refine px 8 13 1535 (by kernel_rfl) ?_
    refine px 9 13 2047 (by kernel_rfl) ?_
    exact norm_ pB (hJ (.agg #[.slice A12 t11_0.length c13], .agg #[.slice A19 t18_0.length c20], .slice A26 t25_0.length c27, .tuple #[.agg #[.slice A33 t32_0.length c34], .bool t32_1], .pointer (some ⟨gq_, 0, none⟩), .tuple #[.agg #[.slice A33 t32_0.length c34], .bool t32_1], .agg #[.slice A33 t32_0.length c34], .bool t32_1) _ ⟨gq_, nlo_, nhi_, A33, c34, P36, rfl, rfl, rfl, rfl, rfl, BQ.out, HL.out, ZQ.out, F35.out, B37.out, T38.out⟩)
  ·refine value_ (v := .pointer (some ⟨w6_.heap.size, 0, none⟩)) (w1 := w6_.alloc (.cells #[.slice none 0 0] 26 (0, 0))) (by rfl) rfl zB ?_
   obtain ⟨wl4_, gq_, hgq_, hwq_, hbq_⟩ : ∃ (W_ : World) (g_ : Nat), g_ = w6_.heap.size ∧ W_ = w6_.alloc (.cells #[.slice none 0 0] 26 (0, 0)) ∧ True := ⟨_, _, rfl, rfl, trivial⟩
   rw [← hwq_, ← hgq_]
   have hb_ : Below w6_.heap.size w6_ wl4_ := by rw [hwq_]; exact xa (Below.refl _ _) _
   have BQ : Aside0 (wl4_.heap[gq_]? = some (.cells #[.slice none 0 0] 26 (0, 0))) := xm (by rw [hwq_, hgq_]; exact blk_new _ _)
   have GQ := xm (show w6_.heap.size ≤ gq_ ∧ gq_ < wl4_.heap.size from ⟨by rw [hgq_]; exact HL.out.size, blk_lt BQ.out⟩)
   have ml_ := xm (below_step HL.out hb_)
   clear HL
   have HL := ml_
   clear ml_
   clear hb_ hgq_ hwq_ hbq_
   refine hK.out _ _ ⟨(pw_cell_below HL.out ((xc BKg1.out 0).trans rfl)), (pw_cell_below HL.out ((xc BKg3.out 0).trans rfl))⟩ (fun hHeld => ?_)
   clear hK K
   refine norm_ (a' := ?_) ?_ ?_
   rotate_left
   ·show Act.put _ (some 8) _ = _
    simp only [Act.put, xi, xj, xk, i64_w, i32_w]
    rfl
   refine one_ (i := 1) (N := some 37) #[Y,Y,Y,Z,Y,Z,Z,Z,Z,Z,Y,Z,Z] rfl rfl (by kernel_rfl) (by decide) (fun K hK => ?_)
   refine goes_ Try.func20 (by kernel_rfl) rfl #[.agg #[.slice A0_0 l0_0.length c0_0]] (by rfl) rfl rfl mB ?_
   refine (laws_toRow.calls k _ _ l0_0 t11_0 _ (Kd.C_below (Kd.C_below HR0_0.out HB.out) HL.out) HC0_0.out t11A.out).mono ?_
   rintro e wl5_ ⟨v0_, rfl, h0_, hb_⟩
   refine ⟨_, rfl, ?_⟩
   obtain ⟨A12, c13, rfl⟩ := Kd.R_slice h0_
   have F14 := xm h0_
   have ml_ := xm (below_step HL.out hb_)
   clear HL
   have HL := ml_
   clear ml_
   clear h0_
   have GL_ := xm (blk_lt BQ.out)
   have mq_ := xm (blk_below BQ.out hb_)
   clear BQ
   have BQ := mq_
   clear mq_
   clear hb_
   refine hK.out _ _ ⟨(pw_cell_below HL.out ((xc BKg1.out 0).trans rfl)), (pw_cell_below HL.out ((xc BKg3.out 0).trans rfl))⟩ (fun hHeld => ?_)
   clear hK K
   refine norm_ (a' := ?_) ?_ ?_
   rotate_left
   ·show Act.put _ (some 37) _ = _
    simp only [Act.put, xi, xj, xk, i64_w, i32_w]
    rfl
   refine one_ (i := 3) (N := some 39) #[Y,Y,Y,Y,Y,Z,Z,Z,Z,Z,Y,Z,Z] rfl rfl (by kernel_rfl) (by decide) (fun K hK => ?_)
   refine goes_ Try.func20 (by kernel_rfl) rfl #[.agg #[.slice A1_0 l1_0.length c1_0]] (by rfl) rfl rfl mB ?_
   refine (laws_toRow.calls k _ _ l1_0 t18_0 _ (Kd.C_below (Kd.C_below HR1_0.out HB.out) HL.out) HC1_0.out t18A.out).mono ?_
   rintro e wl6_ ⟨v0_, rfl, h0_, hb_⟩
   refine ⟨_, rfl, ?_⟩
   obtain ⟨A19, c20, rfl⟩ := Kd.R_slice h0_
   have F21 := xm h0_
   have ml_ := xm (below_step HL.out hb_)
   clear HL
   have HL := ml_
   clear ml_
   clear h0_
   have GL_ := xm (blk_lt BQ.out)
   have mq_ := xm (blk_below BQ.out hb_)
   clear BQ
   have BQ := mq_
   clear mq_
   have mk_ := xm (Kd.R_below F14.out hb_)
   clear F14
   have F14 := mk_
   clear mk_
   clear hb_
   refine hK.out _ _ ⟨(pw_cell_below HL.out ((xc BKg1.out 0).trans rfl)), (pw_cell_below HL.out ((xc BKg3.out 0).trans rfl))⟩ (fun hHeld => ?_)
   clear hK K
   refine norm_ (a' := ?_) ?_ ?_
   rotate_left
   ·show Act.put _ (some 39) _ = _
    simp only [Act.put, xi, xj, xk, i64_w, i32_w]
    rfl
   refine one_ (i := 5) (N := some 41) #[Y,Y,Y,Y,Y,Y,Z,Z,Z,Z,Y,Z,Z] rfl rfl (by kernel_rfl) (by decide) (fun K hK => ?_)
   refine goes_ Try.func54 (by kernel_rfl) rfl #[.slice A2 l2.length c2] (by rfl) rfl rfl mB ?_
   refine (laws_toIntSS.calls k _ _ l2 t25_0 _ (Kd.C_below (Kd.C_below HR2.out HB.out) HL.out) HC2.out t25A.out).mono ?_
   rintro e wl7_ ⟨v0_, rfl, h0_, hb_⟩
   refine ⟨_, rfl, ?_⟩
   obtain ⟨A26, c27, rfl⟩ := Kd.S_slice h0_
   have F28 := xm h0_
   have ml_ := xm (below_step HL.out hb_)
   clear HL
   have HL := ml_
   clear ml_
   clear h0_
   have GL_ := xm (blk_lt BQ.out)
   have mq_ := xm (blk_below BQ.out hb_)
   clear BQ
   have BQ := mq_
   clear mq_
   have mk_ := xm (Kd.R_below F14.out hb_)
   clear F14
   have F14 := mk_
   clear mk_
   have mk_ := xm (Kd.R_below F21.out hb_)
   clear F21
   have F21 := mk_
   clear mk_
   clear hb_
   refine hK.out _ _ ⟨(pw_cell_below HL.out ((xc BKg1.out 0).trans rfl)), (pw_cell_below HL.out ((xc BKg3.out 0).trans rfl))⟩ (fun hHeld => ?_)
   clear hK K
   refine norm_ (a' := ?_) ?_ ?_
   rotate_left
   ·show Act.put _ (some 41) _ = _
    simp only [Act.put, xi, xj, xk, i64_w, i32_w]
    rfl
   refine one_ (i := 6) (N := some 42) #[Y,Y,Y,Y,Y,Y,Y,Z,Z,Z,Y,Z,Z] rfl rfl (by kernel_rfl) (by decide) (fun K hK => ?_)
   refine goes_ Try.func53 (by kernel_rfl) rfl #[.agg #[.slice A12 t11_0.length c13], .agg #[.slice A19 t18_0.length c20], .slice A26 t25_0.length c27] (by rfl) rfl rfl mB ?_
   refine (spec_JoinRows.calls k _ _ t11_0 _ _ t18_0 _ _ t25_0 t32_0 t32_1 _ (Kd.R_reads' F14.out).2.2 (Kd.R_reads' F14.out).2.1 (Kd.R_reads' F21.out).2.2 (Kd.R_reads' F21.out).2.1 (Kd.S_reads' F28.out).2.2 (Kd.S_reads' F28.out).2.1 t32A.out).mono ?_
   rintro e wl8_ ⟨v0_, rfl, h0_, hb_⟩
   refine ⟨_, rfl, ?_⟩
   obtain ⟨A33, c34, rfl⟩ := Kd.R_slice h0_
   obtain ⟨P36, p1_, p2_, p3_⟩ := hideT (base := w.heap.size) rfl h0_ (Nat.le_trans HB.out.size HL.out.size)
   have F35 := xm p1_
   have B37 := xm p2_
   have T38 := xm p3_
   clear p1_ p2_ p3_
   have HP_ := xm HL.out.size
   have GL_ := xm (Nat.le_refl 0)
   have ml_ := xm (below_step HL.out hb_)
   clear HL
   have HL := ml_
   clear ml_
   clear h0_
   have GL_ := xm (blk_lt BQ.out)
   have mq_ := xm (blk_below BQ.out hb_)
   clear BQ
   have BQ := mq_
   clear mq_
   have mk_ := xm (Kd.R_below F14.out hb_)
   clear F14
   have F14 := mk_
   clear mk_
   have mk_ := xm (Kd.R_below F21.out hb_)
   clear F21
   have F21 := mk_
   clear mk_
   have mk_ := xm (Kd.S_below F28.out hb_)
   clear F28
   have F28 := mk_
   clear mk_
   obtain ⟨nlo_, hnlo_⟩ : ∃ q_, q_ = wl7_.heap.size := ⟨_, rfl⟩
   obtain ⟨nhi_, hnhi_⟩ : ∃ q_, q_ = wl8_.heap.size := ⟨_, rfl⟩
   have mB_ : Aside0 (∀ k_, P36 k_ → nlo_ ≤ k_ ∧ k_ < nhi_) := xm (by rw [hnlo_, hnhi_]; exact B37.out)
   clear B37
   have B37 := mB_
   clear mB_
   have ZQ : Aside0 (w6_.heap.size ≤ gq_ ∧ gq_ < wl8_.heap.size ∧ w6_.heap.size ≤ nlo_ ∧ nlo_ ≤ nhi_ ∧ nhi_ ≤ wl8_.heap.size ∧ (gq_ < nlo_ ∨ nhi_ ≤ gq_)) := xm (by have z1_ := GL_.out; have z2_ := hb_.size; have z3_ := GQ.out; have z4_ := blk_lt BQ.out; have z5_ := HP_.out; omega)
   clear hnlo_ hnhi_
   clear hb_
   refine hK.out _ _ ⟨(pw_cell_below HL.out ((xc BKg1.out 0).trans rfl)), (pw_cell_below HL.out ((xc BKg3.out 0).trans rfl))⟩ (fun hHeld => ?_)
   clear hK K
   refine norm_ (a' := ?_) ?_ ?_
   rotate_left
   ·show Act.put _ (some 42) _ = _
    simp only [Act.put, xi, xj, xk, i64_w, i32_w]
    rfl
   refine px 7 13 1279 (by kernel_rfl) ?_
   refine px 8 13 1535 (by kernel_rfl) ?_
   refine px 9 13 2047 (by kernel_rfl) ?_
   exact norm_ pB (hJ (.agg #[.slice A12 t11_0.length c13], .agg #[.slice A19 t18_0.length c20], .slice A26 t25_0.length c27, .tuple #[.agg #[.slice A33 t32_0.length c34], .bool t32_1], .pointer (some ⟨gq_, 0, none⟩), .tuple #[.agg #[.slice A33 t32_0.length c34], .bool t32_1], .agg #[.slice A33 t32_0.length c34], .bool t32_1) _ ⟨gq_, nlo_, nhi_, A33, c34, P36, rfl, rfl, rfl, rfl, rfl, BQ.out, HL.out, ZQ.out, F35.out, B37.out, T38.out⟩)
 intro s_ w7_ hF_
 obtain ⟨v0_, v1_, v2_, v3_, v4_, v5_, v6_, v7_⟩ := s_
 (try dsimp only at hF_)
 obtain ⟨g39, n40, n41, A33, c34, P36, e1_, e2_, e3_, e4_, e5_, hbk_, hb_, hz_, hr0_, hp0_, ht0_⟩ := hF_
 subst e1_ e2_ e3_ e4_ e5_
 have ZJ7 := xm hz_
 have Z7 := xm (hb_.size : w6_.heap.size ≤ w7_.heap.size)
 have hk_ := Kept.of_below hb_ (fun _ => False)
 have m0_ := xm (blk_kept BKg1.out hk_ (fun h_ => h_))
 have m1_ := xm (blk_kept BKg3.out hk_ (fun h_ => h_))
 clear BKg1 BKg3
 have BKg1 := m0_
 have BKg3 := m1_
 clear m0_ m1_
 have m0_ := xm (below_step (w := w) HB.out hb_)
 clear HB
 have HB := m0_
 clear m0_
 have BKg39 := xm hbk_
 have GBg39 : Aside0 (w6_.heap.size ≤ g39 ∧ g39 < w7_.heap.size) := xm ⟨hz_.1, hz_.2.1⟩
 have F35 := xm hr0_
 have B37 := xm hp0_
 have T38 := xm ht0_
 clear hbk_ hb_ hz_ hk_ hr0_ hp0_ ht0_
 refine norm_ (a' := ?_) ?_ ?_
 rotate_left
 ·simp only [putAll, Act.put, xi, xj, xk]
  rfl
 obtain ⟨hcg39_0, hfg39_0⟩ := laws_FnExactJoinRows.cs1 BKg39.out
 refine one_ (i := 11) (N := none) #[Y,Y,Y,Y,Y,Y,Y,Y,Y,Y,Y,Y,Z] rfl rfl (by kernel_rfl) (by decide) (fun K hK => ?_)
 refine skip_ (by rfl) rfl (w1 := (w7_.setCell ⟨g39, 0, none⟩ (.slice A33 t32_0.length c34))) zB ?_
 obtain ⟨w8_, hw_⟩ : ∃ W_ : World, W_ = (w7_.setCell ⟨g39, 0, none⟩ (.slice A33 t32_0.length c34)) := ⟨_, rfl⟩
 rw [← hw_]
 clear hcg39_0 hfg39_0
 have hk_ : Kept w7_ w8_ (fun k_ => k_ = g39) := (by rw [hw_]; exact kept_box (Kept.refl _ _) _ _)
 have hx_ : w8_.heap[g39]? = some (.cells #[.slice A33 t32_0.length c34] 26 (0, 0)) := (by rw [hw_]; refine blk_put (cs := #[.slice none 0 0]) ?_ 0 _ rfl; exact BKg39.out)
 have Z8 := xm (hk_.1 : w7_.heap.size ≤ w8_.heap.size)
 have ge_ : w.heap.size ≤ g39 := (by have := GBg39.out; have := Z1.out; have := Z2.out; have := Z3.out; have := Z4.out; have := Z5.out; have := Z6.out; have := ZJ7.out; omega)
 have mb_ : Aside0 (Below w.heap.size w w8_) := xm (by rw [hw_]; exact xt (HB.out) ge_)
 have hk2_ := (Kept.mono hk_ (S' := fun k_ => g39 ≤ k_ ∧ k_ < g39 + 1) (fun k_ h_ => by have h_ : k_ = g39 := h_; exact ⟨by omega, by omega⟩))
 have m0_ := xm (Kd.R_kept F35.out hk2_ (fun k_ h_ h2_ => by have u1_ := B37.out k_ h_; have u2_ : g39 ≤ k_ ∧ k_ < g39 + 1 := h2_; have := ZJ7.out; omega))
 have m1_ := xm (blk_kept BKg1.out hk2_ (fun h2_ => by have u1_ := GBg1.out; have u2_ : g39 ≤ g1 ∧ g1 < g39 + 1 := h2_; have := Z2.out; have := Z3.out; have := Z4.out; have := Z5.out; have := Z6.out; have := ZJ7.out; omega))
 have m2_ := xm (blk_kept BKg3.out hk2_ (fun h2_ => by have u1_ := GBg3.out; have u2_ : g39 ≤ g3 ∧ g3 < g39 + 1 := h2_; have := Z3.out; have := Z4.out; have := Z5.out; have := Z6.out; have := ZJ7.out; omega))
 clear F35 BKg1 BKg3
 have F35 := m0_
 have BKg1 := m1_
 have BKg3 := m2_
 clear m0_ m1_ m2_
 clear HB BKg39
 have HB := mb_
 have BKg39 := xm hx_
 clear mb_ hx_ hk_ hk2_ hw_ ge_
 refine hK.out _ _ ⟨((xc BKg1.out 0).trans rfl), ((xc BKg3.out 0).trans rfl)⟩ (fun hHeld => ?_)
 clear hK K
 refine px 12 13 8191 (by kernel_rfl) ?_
 refine done_ (by kernel_rfl) ?_
 (try clear hHeld)
 obtain ⟨hcg1_0, hfg1_0⟩ := laws_FnExactJoinRows.cs1 BKg1.out
 obtain ⟨hcg3_0, hfg3_0⟩ := laws_FnExactJoinRows.cs1 BKg3.out
 obtain ⟨hcg39_0, hfg39_0⟩ := laws_FnExactJoinRows.cs1 BKg39.out
 go_wp2_with (first
  | ((with_reducible refine gate_callee (f := 20) rfl ?_); refine goesL_ (some 46) rfl rfl Try.func20 (by kernel_rfl) rfl #[.agg #[.slice A0_0 l0_0.length c0_0]] rfl mB ?_; refine (laws_toRow.calls k _ _ l0_0 t43_0 _ (Kd.C_below HR0_0.out HB.out) HC0_0.out t43A.out).mono ?_; rintro e w9_ ⟨v0_, rfl, h0_, hb_⟩; refine ⟨_, rfl, ?_⟩; have Z9 := xm (hb_.size : w8_.heap.size ≤ w9_.heap.size); have hk_ := Kept.of_below hb_ (fun _ => False); obtain ⟨A45, c46, rfl⟩ := Kd.R_slice h0_; obtain ⟨P47, p1_, p2_, p3_⟩ := hideT (base := w.heap.size) rfl h0_ (szOf (w := w) HB.out); have F44 := xm p1_; have B48 : Aside0 (∀ k_, P47 k_ → w8_.heap.size ≤ k_ ∧ k_ < w9_.heap.size) := xm p2_; have T49 := xm p3_; clear p1_ p2_ p3_; have m0_ := xm (Kd.R_kept F35.out hk_ (fun _ _ h_ => h_)); have m1_ := xm (blk_kept BKg1.out hk_ (fun h_ => h_)); have m2_ := xm (blk_kept BKg3.out hk_ (fun h_ => h_)); have m3_ := xm (blk_kept BKg39.out hk_ (fun h_ => h_)); clear F35 BKg1 BKg3 BKg39; have F35 := m0_; have BKg1 := m1_; have BKg3 := m2_; have BKg39 := m3_; clear m0_ m1_ m2_ m3_; have m0_ := xm (below_step (w := w) HB.out hb_); clear HB; have HB := m0_; clear m0_ hb_ hk_ h0_; clear hcg1_0 hfg1_0; obtain ⟨hcg1_0, hfg1_0⟩ := laws_FnExactJoinRows.cs1 BKg1.out; clear hcg3_0 hfg3_0; obtain ⟨hcg3_0, hfg3_0⟩ := laws_FnExactJoinRows.cs1 BKg3.out; clear hcg39_0 hfg39_0; obtain ⟨hcg39_0, hfg39_0⟩ := laws_FnExactJoinRows.cs1 BKg39.out)
  | ((with_reducible refine gate_dst (N := 10) rfl ?_); refine box_event ?hgq51 (N := 10) ?hdq51 (cs := #[.slice none 0 0]) (t := 26) ?hrq51 ?_; (case hdq51 => rfl); (case hgq51 => rfl); (case hrq51 => exact zB); intro g50 hg_ w10_ hbox_ hb_; have Z10 := xm (hb_.size : w9_.heap.size ≤ w10_.heap.size); have hk_ := Kept.of_below hb_ (fun _ => False); have m0_ := xm (Kd.R_kept F35.out hk_ (fun _ _ h_ => h_)); have m1_ := xm (Kd.R_kept F44.out hk_ (fun _ _ h_ => h_)); have m2_ := xm (blk_kept BKg1.out hk_ (fun h_ => h_)); have m3_ := xm (blk_kept BKg3.out hk_ (fun h_ => h_)); have m4_ := xm (blk_kept BKg39.out hk_ (fun h_ => h_)); clear F35 F44 BKg1 BKg3 BKg39; have F35 := m0_; have F44 := m1_; have BKg1 := m2_; have BKg3 := m3_; have BKg39 := m4_; clear m0_ m1_ m2_ m3_ m4_; have m0_ := xm (below_step (w := w) HB.out hb_); clear HB; have HB := m0_; have BKg50 := xm hbox_; have GBg50 : Aside0 (w9_.heap.size ≤ g50 ∧ g50 < w10_.heap.size) := xm ⟨by rw [hg_]; exact Nat.le_refl _, blk_lt hbox_⟩; clear m0_ hb_ hbox_ hg_ hk_; clear hcg1_0 hfg1_0; obtain ⟨hcg1_0, hfg1_0⟩ := laws_FnExactJoinRows.cs1 BKg1.out; clear hcg3_0 hfg3_0; obtain ⟨hcg3_0, hfg3_0⟩ := laws_FnExactJoinRows.cs1 BKg3.out; clear hcg39_0 hfg39_0; obtain ⟨hcg39_0, hfg39_0⟩ := laws_FnExactJoinRows.cs1 BKg39.out; obtain ⟨hcg50_0, hfg50_0⟩ := laws_FnExactJoinRows.cs1 BKg50.out)
  | ((with_reducible refine gate_store (t := 26) (p := 10) rfl ?_); refine store_event (t := 26) (p := 10) (v := ?voq52) (w1 := (w10_.setCell ⟨g50, 0, none⟩ (.slice A45 t43_0.length c46))) ?hgq52 ?hoq52 ?hnq52 ?hrq52 ?_; (case hoq52 => rfl); (case hgq52 => rfl); (case hnq52 => rfl); (case hrq52 => exact zB); intro w11_ hw_; have hk_ : Kept w10_ w11_ (fun k_ => k_ = g50) := (by rw [hw_]; exact kept_box (Kept.refl _ _) _ _); have hx_ : w11_.heap[g50]? = some (.cells #[.slice A45 t43_0.length c46] 26 (0, 0)) := (by rw [hw_]; refine blk_put (cs := #[.slice none 0 0]) ?_ 0 _ rfl; exact BKg50.out); have Z11 := xm (hk_.1 : w10_.heap.size ≤ w11_.heap.size); have ge_ : w.heap.size ≤ g50 := (by have := GBg50.out; have := Z1.out; have := Z2.out; have := Z3.out; have := Z4.out; have := Z5.out; have := Z6.out; have := Z7.out; have := Z8.out; have := Z9.out; have := ZJ7.out; omega); have mb_ : Aside0 (Below w.heap.size w w11_) := xm (by rw [hw_]; exact xt (HB.out) ge_); have hk2_ := (Kept.mono hk_ (S' := fun k_ => w9_.heap.size ≤ k_ ∧ k_ < w10_.heap.size) (fun k_ h_ => by have h_ : k_ = g50 := h_; subst h_; exact GBg50.out)); have m0_ := xm (Kd.R_kept F35.out hk2_ (fun k_ h_ h2_ => by have u1_ := B37.out k_ h_; have u2_ : w9_.heap.size ≤ k_ ∧ k_ < w10_.heap.size := h2_; have := Z8.out; have := Z9.out; have := ZJ7.out; omega)); have m1_ := xm (Kd.R_kept F44.out hk2_ (fun k_ h_ h2_ => by have u1_ := B48.out k_ h_; have u2_ : w9_.heap.size ≤ k_ ∧ k_ < w10_.heap.size := h2_; have := ZJ7.out; omega)); have m2_ := xm (blk_kept BKg1.out hk2_ (fun h2_ => by have u1_ := GBg1.out; have u2_ : w9_.heap.size ≤ g1 ∧ g1 < w10_.heap.size := h2_; have := Z2.out; have := Z3.out; have := Z4.out; have := Z5.out; have := Z6.out; have := Z7.out; have := Z8.out; have := Z9.out; have := ZJ7.out; omega)); have m3_ := xm (blk_kept BKg3.out hk2_ (fun h2_ => by have u1_ := GBg3.out; have u2_ : w9_.heap.size ≤ g3 ∧ g3 < w10_.heap.size := h2_; have := Z3.out; have := Z4.out; have := Z5.out; have := Z6.out; have := Z7.out; have := Z8.out; have := Z9.out; have := ZJ7.out; omega)); have m4_ := xm (blk_kept BKg39.out hk2_ (fun h2_ => by have u1_ := GBg39.out; have u2_ : w9_.heap.size ≤ g39 ∧ g39 < w10_.heap.size := h2_; have := Z8.out; have := Z9.out; have := ZJ7.out; omega)); clear F35 F44 BKg1 BKg3 BKg39; have F35 := m0_; have F44 := m1_; have BKg1 := m2_; have BKg3 := m3_; have BKg39 := m4_; clear m0_ m1_ m2_ m3_ m4_; clear HB BKg50; have HB := mb_; have BKg50 := xm hx_; clear mb_ hx_ hk_ hk2_ hw_ ge_; clear hcg1_0 hfg1_0; obtain ⟨hcg1_0, hfg1_0⟩ := laws_FnExactJoinRows.cs1 BKg1.out; clear hcg3_0 hfg3_0; obtain ⟨hcg3_0, hfg3_0⟩ := laws_FnExactJoinRows.cs1 BKg3.out; clear hcg39_0 hfg39_0; obtain ⟨hcg39_0, hfg39_0⟩ := laws_FnExactJoinRows.cs1 BKg39.out; clear hcg50_0 hfg50_0; obtain ⟨hcg50_0, hfg50_0⟩ := laws_FnExactJoinRows.cs1 BKg50.out)
  | ((with_reducible refine gate_callee (f := 20) rfl ?_); refine goesL_ (some 48) rfl rfl Try.func20 (by kernel_rfl) rfl #[.agg #[.slice A1_0 l1_0.length c1_0]] rfl mB ?_; refine (laws_toRow.calls k _ _ l1_0 t53_0 _ (Kd.C_below HR1_0.out HB.out) HC1_0.out t53A.out).mono ?_; rintro e w12_ ⟨v0_, rfl, h0_, hb_⟩; refine ⟨_, rfl, ?_⟩; have Z12 := xm (hb_.size : w11_.heap.size ≤ w12_.heap.size); have hk_ := Kept.of_below hb_ (fun _ => False); obtain ⟨A55, c56, rfl⟩ := Kd.R_slice h0_; obtain ⟨P57, p1_, p2_, p3_⟩ := hideT (base := w.heap.size) rfl h0_ (szOf (w := w) HB.out); have F54 := xm p1_; have B58 : Aside0 (∀ k_, P57 k_ → w11_.heap.size ≤ k_ ∧ k_ < w12_.heap.size) := xm p2_; have T59 := xm p3_; clear p1_ p2_ p3_; have m0_ := xm (Kd.R_kept F35.out hk_ (fun _ _ h_ => h_)); have m1_ := xm (Kd.R_kept F44.out hk_ (fun _ _ h_ => h_)); have m2_ := xm (blk_kept BKg1.out hk_ (fun h_ => h_)); have m3_ := xm (blk_kept BKg3.out hk_ (fun h_ => h_)); have m4_ := xm (blk_kept BKg39.out hk_ (fun h_ => h_)); have m5_ := xm (blk_kept BKg50.out hk_ (fun h_ => h_)); clear F35 F44 BKg1 BKg3 BKg39 BKg50; have F35 := m0_; have F44 := m1_; have BKg1 := m2_; have BKg3 := m3_; have BKg39 := m4_; have BKg50 := m5_; clear m0_ m1_ m2_ m3_ m4_ m5_; have m0_ := xm (below_step (w := w) HB.out hb_); clear HB; have HB := m0_; clear m0_ hb_ hk_ h0_; clear hcg1_0 hfg1_0; obtain ⟨hcg1_0, hfg1_0⟩ := laws_FnExactJoinRows.cs1 BKg1.out; clear hcg3_0 hfg3_0; obtain ⟨hcg3_0, hfg3_0⟩ := laws_FnExactJoinRows.cs1 BKg3.out; clear hcg39_0 hfg39_0; obtain ⟨hcg39_0, hfg39_0⟩ := laws_FnExactJoinRows.cs1 BKg39.out; clear hcg50_0 hfg50_0; obtain ⟨hcg50_0, hfg50_0⟩ := laws_FnExactJoinRows.cs1 BKg50.out)
  | ((with_reducible refine gate_dst (N := 11) rfl ?_); refine box_event ?hgq61 (N := 11) ?hdq61 (cs := #[.slice none 0 0]) (t := 26) ?hrq61 ?_; (case hdq61 => rfl); (case hgq61 => rfl); (case hrq61 => exact zB); intro g60 hg_ w13_ hbox_ hb_; have Z13 := xm (hb_.size : w12_.heap.size ≤ w13_.heap.size); have hk_ := Kept.of_below hb_ (fun _ => False); have m0_ := xm (Kd.R_kept F35.out hk_ (fun _ _ h_ => h_)); have m1_ := xm (Kd.R_kept F44.out hk_ (fun _ _ h_ => h_)); have m2_ := xm (Kd.R_kept F54.out hk_ (fun _ _ h_ => h_)); have m3_ := xm (blk_kept BKg1.out hk_ (fun h_ => h_)); have m4_ := xm (blk_kept BKg3.out hk_ (fun h_ => h_)); have m5_ := xm (blk_kept BKg39.out hk_ (fun h_ => h_)); have m6_ := xm (blk_kept BKg50.out hk_ (fun h_ => h_)); clear F35 F44 F54 BKg1 BKg3 BKg39 BKg50; have F35 := m0_; have F44 := m1_; have F54 := m2_; have BKg1 := m3_; have BKg3 := m4_; have BKg39 := m5_; have BKg50 := m6_; clear m0_ m1_ m2_ m3_ m4_ m5_ m6_; have m0_ := xm (below_step (w := w) HB.out hb_); clear HB; have HB := m0_; have BKg60 := xm hbox_; have GBg60 : Aside0 (w12_.heap.size ≤ g60 ∧ g60 < w13_.heap.size) := xm ⟨by rw [hg_]; exact Nat.le_refl _, blk_lt hbox_⟩; clear m0_ hb_ hbox_ hg_ hk_; clear hcg1_0 hfg1_0; obtain ⟨hcg1_0, hfg1_0⟩ := laws_FnExactJoinRows.cs1 BKg1.out; clear hcg3_0 hfg3_0; obtain ⟨hcg3_0, hfg3_0⟩ := laws_FnExactJoinRows.cs1 BKg3.out; clear hcg39_0 hfg39_0; obtain ⟨hcg39_0, hfg39_0⟩ := laws_FnExactJoinRows.cs1 BKg39.out; clear hcg50_0 hfg50_0; obtain ⟨hcg50_0, hfg50_0⟩ := laws_FnExactJoinRows.cs1 BKg50.out; obtain ⟨hcg60_0, hfg60_0⟩ := laws_FnExactJoinRows.cs1 BKg60.out)
  | ((with_reducible refine gate_store (t := 26) (p := 11) rfl ?_); refine store_event (t := 26) (p := 11) (v := ?voq62) (w1 := (w13_.setCell ⟨g60, 0, none⟩ (.slice A55 t53_0.length c56))) ?hgq62 ?hoq62 ?hnq62 ?hrq62 ?_; (case hoq62 => rfl); (case hgq62 => rfl); (case hnq62 => rfl); (case hrq62 => exact zB); intro w14_ hw_; have hk_ : Kept w13_ w14_ (fun k_ => k_ = g60) := (by rw [hw_]; exact kept_box (Kept.refl _ _) _ _); have hx_ : w14_.heap[g60]? = some (.cells #[.slice A55 t53_0.length c56] 26 (0, 0)) := (by rw [hw_]; refine blk_put (cs := #[.slice none 0 0]) ?_ 0 _ rfl; exact BKg60.out); have Z14 := xm (hk_.1 : w13_.heap.size ≤ w14_.heap.size); have ge_ : w.heap.size ≤ g60 := (by have := GBg60.out; have := Z1.out; have := Z2.out; have := Z3.out; have := Z4.out; have := Z5.out; have := Z6.out; have := Z7.out; have := Z8.out; have := Z9.out; have := Z10.out; have := Z11.out; have := Z12.out; have := ZJ7.out; omega); have mb_ : Aside0 (Below w.heap.size w w14_) := xm (by rw [hw_]; exact xt (HB.out) ge_); have hk2_ := (Kept.mono hk_ (S' := fun k_ => w12_.heap.size ≤ k_ ∧ k_ < w13_.heap.size) (fun k_ h_ => by have h_ : k_ = g60 := h_; subst h_; exact GBg60.out)); have m0_ := xm (Kd.R_kept F35.out hk2_ (fun k_ h_ h2_ => by have u1_ := B37.out k_ h_; have u2_ : w12_.heap.size ≤ k_ ∧ k_ < w13_.heap.size := h2_; have := Z8.out; have := Z9.out; have := Z10.out; have := Z11.out; have := Z12.out; have := ZJ7.out; omega)); have m1_ := xm (Kd.R_kept F44.out hk2_ (fun k_ h_ h2_ => by have u1_ := B48.out k_ h_; have u2_ : w12_.heap.size ≤ k_ ∧ k_ < w13_.heap.size := h2_; have := Z10.out; have := Z11.out; have := Z12.out; have := ZJ7.out; omega)); have m2_ := xm (Kd.R_kept F54.out hk2_ (fun k_ h_ h2_ => by have u1_ := B58.out k_ h_; have u2_ : w12_.heap.size ≤ k_ ∧ k_ < w13_.heap.size := h2_; have := ZJ7.out; omega)); have m3_ := xm (blk_kept BKg1.out hk2_ (fun h2_ => by have u1_ := GBg1.out; have u2_ : w12_.heap.size ≤ g1 ∧ g1 < w13_.heap.size := h2_; have := Z2.out; have := Z3.out; have := Z4.out; have := Z5.out; have := Z6.out; have := Z7.out; have := Z8.out; have := Z9.out; have := Z10.out; have := Z11.out; have := Z12.out; have := ZJ7.out; omega)); have m4_ := xm (blk_kept BKg3.out hk2_ (fun h2_ => by have u1_ := GBg3.out; have u2_ : w12_.heap.size ≤ g3 ∧ g3 < w13_.heap.size := h2_; have := Z3.out; have := Z4.out; have := Z5.out; have := Z6.out; have := Z7.out; have := Z8.out; have := Z9.out; have := Z10.out; have := Z11.out; have := Z12.out; have := ZJ7.out; omega)); have m5_ := xm (blk_kept BKg39.out hk2_ (fun h2_ => by have u1_ := GBg39.out; have u2_ : w12_.heap.size ≤ g39 ∧ g39 < w13_.heap.size := h2_; have := Z8.out; have := Z9.out; have := Z10.out; have := Z11.out; have := Z12.out; have := ZJ7.out; omega)); have m6_ := xm (blk_kept BKg50.out hk2_ (fun h2_ => by have u1_ := GBg50.out; have u2_ : w12_.heap.size ≤ g50 ∧ g50 < w13_.heap.size := h2_; have := Z11.out; have := Z12.out; have := ZJ7.out; omega)); clear F35 F44 F54 BKg1 BKg3 BKg39 BKg50; have F35 := m0_; have F44 := m1_; have F54 := m2_; have BKg1 := m3_; have BKg3 := m4_; have BKg39 := m5_; have BKg50 := m6_; clear m0_ m1_ m2_ m3_ m4_ m5_ m6_; clear HB BKg60; have HB := mb_; have BKg60 := xm hx_; clear mb_ hx_ hk_ hk2_ hw_ ge_; clear hcg1_0 hfg1_0; obtain ⟨hcg1_0, hfg1_0⟩ := laws_FnExactJoinRows.cs1 BKg1.out; clear hcg3_0 hfg3_0; obtain ⟨hcg3_0, hfg3_0⟩ := laws_FnExactJoinRows.cs1 BKg3.out; clear hcg39_0 hfg39_0; obtain ⟨hcg39_0, hfg39_0⟩ := laws_FnExactJoinRows.cs1 BKg39.out; clear hcg50_0 hfg50_0; obtain ⟨hcg50_0, hfg50_0⟩ := laws_FnExactJoinRows.cs1 BKg50.out; clear hcg60_0 hfg60_0; obtain ⟨hcg60_0, hfg60_0⟩ := laws_FnExactJoinRows.cs1 BKg60.out)
  | ((with_reducible refine gate_callee (f := 54) rfl ?_); refine goesL_ (some 50) rfl rfl Try.func54 (by kernel_rfl) rfl #[.slice A2 l2.length c2] rfl mB ?_; refine (laws_toIntSS.calls k _ _ l2 t63_0 _ (Kd.C_below HR2.out HB.out) HC2.out t63A.out).mono ?_; rintro e w15_ ⟨v0_, rfl, h0_, hb_⟩; refine ⟨_, rfl, ?_⟩; have Z15 := xm (hb_.size : w14_.heap.size ≤ w15_.heap.size); have hk_ := Kept.of_below hb_ (fun _ => False); obtain ⟨A65, c66, rfl⟩ := Kd.S_slice h0_; obtain ⟨P67, p1_, p2_, p3_⟩ := hideS (base := w.heap.size) h0_ (szOf (w := w) HB.out); have F64 := xm p1_; have B68 : Aside0 (∀ k_, P67 k_ → w14_.heap.size ≤ k_ ∧ k_ < w15_.heap.size) := xm p2_; have T69 := xm p3_; clear p1_ p2_ p3_; have m0_ := xm (Kd.R_kept F35.out hk_ (fun _ _ h_ => h_)); have m1_ := xm (Kd.R_kept F44.out hk_ (fun _ _ h_ => h_)); have m2_ := xm (Kd.R_kept F54.out hk_ (fun _ _ h_ => h_)); have m3_ := xm (blk_kept BKg1.out hk_ (fun h_ => h_)); have m4_ := xm (blk_kept BKg3.out hk_ (fun h_ => h_)); have m5_ := xm (blk_kept BKg39.out hk_ (fun h_ => h_)); have m6_ := xm (blk_kept BKg50.out hk_ (fun h_ => h_)); have m7_ := xm (blk_kept BKg60.out hk_ (fun h_ => h_)); clear F35 F44 F54 BKg1 BKg3 BKg39 BKg50 BKg60; have F35 := m0_; have F44 := m1_; have F54 := m2_; have BKg1 := m3_; have BKg3 := m4_; have BKg39 := m5_; have BKg50 := m6_; have BKg60 := m7_; clear m0_ m1_ m2_ m3_ m4_ m5_ m6_ m7_; have m0_ := xm (below_step (w := w) HB.out hb_); clear HB; have HB := m0_; clear m0_ hb_ hk_ h0_; clear hcg1_0 hfg1_0; obtain ⟨hcg1_0, hfg1_0⟩ := laws_FnExactJoinRows.cs1 BKg1.out; clear hcg3_0 hfg3_0; obtain ⟨hcg3_0, hfg3_0⟩ := laws_FnExactJoinRows.cs1 BKg3.out; clear hcg39_0 hfg39_0; obtain ⟨hcg39_0, hfg39_0⟩ := laws_FnExactJoinRows.cs1 BKg39.out; clear hcg50_0 hfg50_0; obtain ⟨hcg50_0, hfg50_0⟩ := laws_FnExactJoinRows.cs1 BKg50.out; clear hcg60_0 hfg60_0; obtain ⟨hcg60_0, hfg60_0⟩ := laws_FnExactJoinRows.cs1 BKg60.out)
  | ((with_reducible refine gate_callee (f := 55) rfl ?_); refine goesL_ (some 55) rfl rfl Try.func55 (by kernel_rfl) rfl #[.agg #[.slice A45 t43_0.length c46], .agg #[.slice A55 t53_0.length c56], .slice A65 t63_0.length c66] rfl mB ?_; refine (impl_JoinRows.calls k _ _ t43_0 _ _ t53_0 _ _ t63_0 t70_0 t70_1 _ (Kd.R_reads' F44.out).2.2 (Kd.R_reads' F44.out).2.1 (Kd.R_reads' F54.out).2.2 (Kd.R_reads' F54.out).2.1 (Kd.S_reads' F64.out).2.2 (Kd.S_reads' F64.out).2.1 t70A.out).mono ?_; rintro e w16_ ⟨v0_, rfl, h0_, hb_⟩; refine ⟨_, rfl, ?_⟩; have Z16 := xm (hb_.size : w15_.heap.size ≤ w16_.heap.size); have hk_ := Kept.of_below hb_ (fun _ => False); obtain ⟨A72, c73, rfl⟩ := Kd.R_slice h0_; obtain ⟨P74, p1_, p2_, p3_⟩ := hideT (base := w.heap.size) rfl h0_ (szOf (w := w) HB.out); have F71 := xm p1_; have B75 : Aside0 (∀ k_, P74 k_ → w15_.heap.size ≤ k_ ∧ k_ < w16_.heap.size) := xm p2_; have T76 := xm p3_; clear p1_ p2_ p3_; have m0_ := xm (Kd.R_kept F35.out hk_ (fun _ _ h_ => h_)); have m1_ := xm (Kd.R_kept F44.out hk_ (fun _ _ h_ => h_)); have m2_ := xm (Kd.R_kept F54.out hk_ (fun _ _ h_ => h_)); have m3_ := xm (Kd.S_kept F64.out hk_ (fun _ _ h_ => h_)); have m4_ := xm (blk_kept BKg1.out hk_ (fun h_ => h_)); have m5_ := xm (blk_kept BKg3.out hk_ (fun h_ => h_)); have m6_ := xm (blk_kept BKg39.out hk_ (fun h_ => h_)); have m7_ := xm (blk_kept BKg50.out hk_ (fun h_ => h_)); have m8_ := xm (blk_kept BKg60.out hk_ (fun h_ => h_)); clear F35 F44 F54 F64 BKg1 BKg3 BKg39 BKg50 BKg60; have F35 := m0_; have F44 := m1_; have F54 := m2_; have F64 := m3_; have BKg1 := m4_; have BKg3 := m5_; have BKg39 := m6_; have BKg50 := m7_; have BKg60 := m8_; clear m0_ m1_ m2_ m3_ m4_ m5_ m6_ m7_ m8_; have m0_ := xm (below_step (w := w) HB.out hb_); clear HB; have HB := m0_; clear m0_ hb_ hk_ h0_; clear hcg1_0 hfg1_0; obtain ⟨hcg1_0, hfg1_0⟩ := laws_FnExactJoinRows.cs1 BKg1.out; clear hcg3_0 hfg3_0; obtain ⟨hcg3_0, hfg3_0⟩ := laws_FnExactJoinRows.cs1 BKg3.out; clear hcg39_0 hfg39_0; obtain ⟨hcg39_0, hfg39_0⟩ := laws_FnExactJoinRows.cs1 BKg39.out; clear hcg50_0 hfg50_0; obtain ⟨hcg50_0, hfg50_0⟩ := laws_FnExactJoinRows.cs1 BKg50.out; clear hcg60_0 hfg60_0; obtain ⟨hcg60_0, hfg60_0⟩ := laws_FnExactJoinRows.cs1 BKg60.out)
  | ((with_reducible refine gate_dst (N := 13) rfl ?_); refine box_event ?hgq78 (N := 13) ?hdq78 (cs := #[.slice none 0 0]) (t := 26) ?hrq78 ?_; (case hdq78 => rfl); (case hgq78 => rfl); (case hrq78 => exact zB); intro g77 hg_ w17_ hbox_ hb_; have Z17 := xm (hb_.size : w16_.heap.size ≤ w17_.heap.size); have hk_ := Kept.of_below hb_ (fun _ => False); have m0_ := xm (Kd.R_kept F35.out hk_ (fun _ _ h_ => h_)); have m1_ := xm (Kd.R_kept F44.out hk_ (fun _ _ h_ => h_)); have m2_ := xm (Kd.R_kept F54.out hk_ (fun _ _ h_ => h_)); have m3_ := xm (Kd.S_kept F64.out hk_ (fun _ _ h_ => h_)); have m4_ := xm (Kd.R_kept F71.out hk_ (fun _ _ h_ => h_)); have m5_ := xm (blk_kept BKg1.out hk_ (fun h_ => h_)); have m6_ := xm (blk_kept BKg3.out hk_ (fun h_ => h_)); have m7_ := xm (blk_kept BKg39.out hk_ (fun h_ => h_)); have m8_ := xm (blk_kept BKg50.out hk_ (fun h_ => h_)); have m9_ := xm (blk_kept BKg60.out hk_ (fun h_ => h_)); clear F35 F44 F54 F64 F71 BKg1 BKg3 BKg39 BKg50 BKg60; have F35 := m0_; have F44 := m1_; have F54 := m2_; have F64 := m3_; have F71 := m4_; have BKg1 := m5_; have BKg3 := m6_; have BKg39 := m7_; have BKg50 := m8_; have BKg60 := m9_; clear m0_ m1_ m2_ m3_ m4_ m5_ m6_ m7_ m8_ m9_; have m0_ := xm (below_step (w := w) HB.out hb_); clear HB; have HB := m0_; have BKg77 := xm hbox_; have GBg77 : Aside0 (w16_.heap.size ≤ g77 ∧ g77 < w17_.heap.size) := xm ⟨by rw [hg_]; exact Nat.le_refl _, blk_lt hbox_⟩; clear m0_ hb_ hbox_ hg_ hk_; clear hcg1_0 hfg1_0; obtain ⟨hcg1_0, hfg1_0⟩ := laws_FnExactJoinRows.cs1 BKg1.out; clear hcg3_0 hfg3_0; obtain ⟨hcg3_0, hfg3_0⟩ := laws_FnExactJoinRows.cs1 BKg3.out; clear hcg39_0 hfg39_0; obtain ⟨hcg39_0, hfg39_0⟩ := laws_FnExactJoinRows.cs1 BKg39.out; clear hcg50_0 hfg50_0; obtain ⟨hcg50_0, hfg50_0⟩ := laws_FnExactJoinRows.cs1 BKg50.out; clear hcg60_0 hfg60_0; obtain ⟨hcg60_0, hfg60_0⟩ := laws_FnExactJoinRows.cs1 BKg60.out; obtain ⟨hcg77_0, hfg77_0⟩ := laws_FnExactJoinRows.cs1 BKg77.out)
  | ((with_reducible refine gate_store (t := 26) (p := 13) rfl ?_); refine store_event (t := 26) (p := 13) (v := ?voq79) (w1 := (w17_.setCell ⟨g77, 0, none⟩ (.slice A72 t70_0.length c73))) ?hgq79 ?hoq79 ?hnq79 ?hrq79 ?_; (case hoq79 => rfl); (case hgq79 => rfl); (case hnq79 => rfl); (case hrq79 => exact zB); intro w18_ hw_; have hk_ : Kept w17_ w18_ (fun k_ => k_ = g77) := (by rw [hw_]; exact kept_box (Kept.refl _ _) _ _); have hx_ : w18_.heap[g77]? = some (.cells #[.slice A72 t70_0.length c73] 26 (0, 0)) := (by rw [hw_]; refine blk_put (cs := #[.slice none 0 0]) ?_ 0 _ rfl; exact BKg77.out); have Z18 := xm (hk_.1 : w17_.heap.size ≤ w18_.heap.size); have ge_ : w.heap.size ≤ g77 := (by have := GBg77.out; have := Z1.out; have := Z2.out; have := Z3.out; have := Z4.out; have := Z5.out; have := Z6.out; have := Z7.out; have := Z8.out; have := Z9.out; have := Z10.out; have := Z11.out; have := Z12.out; have := Z13.out; have := Z14.out; have := Z15.out; have := Z16.out; have := ZJ7.out; omega); have mb_ : Aside0 (Below w.heap.size w w18_) := xm (by rw [hw_]; exact xt (HB.out) ge_); have hk2_ := (Kept.mono hk_ (S' := fun k_ => w16_.heap.size ≤ k_ ∧ k_ < w17_.heap.size) (fun k_ h_ => by have h_ : k_ = g77 := h_; subst h_; exact GBg77.out)); have m0_ := xm (Kd.R_kept F35.out hk2_ (fun k_ h_ h2_ => by have u1_ := B37.out k_ h_; have u2_ : w16_.heap.size ≤ k_ ∧ k_ < w17_.heap.size := h2_; have := Z8.out; have := Z9.out; have := Z10.out; have := Z11.out; have := Z12.out; have := Z13.out; have := Z14.out; have := Z15.out; have := Z16.out; have := ZJ7.out; omega)); have m1_ := xm (Kd.R_kept F44.out hk2_ (fun k_ h_ h2_ => by have u1_ := B48.out k_ h_; have u2_ : w16_.heap.size ≤ k_ ∧ k_ < w17_.heap.size := h2_; have := Z10.out; have := Z11.out; have := Z12.out; have := Z13.out; have := Z14.out; have := Z15.out; have := Z16.out; have := ZJ7.out; omega)); have m2_ := xm (Kd.R_kept F54.out hk2_ (fun k_ h_ h2_ => by have u1_ := B58.out k_ h_; have u2_ : w16_.heap.size ≤ k_ ∧ k_ < w17_.heap.size := h2_; have := Z13.out; have := Z14.out; have := Z15.out; have := Z16.out; have := ZJ7.out; omega)); have m3_ := xm (Kd.S_kept F64.out hk2_ (fun k_ h_ h2_ => by have u1_ := B68.out k_ h_; have u2_ : w16_.heap.size ≤ k_ ∧ k_ < w17_.heap.size := h2_; have := Z16.out; have := ZJ7.out; omega)); have m4_ := xm (Kd.R_kept F71.out hk2_ (fun k_ h_ h2_ => by have u1_ := B75.out k_ h_; have u2_ : w16_.heap.size ≤ k_ ∧ k_ < w17_.heap.size := h2_; have := ZJ7.out; omega)); have m5_ := xm (blk_kept BKg1.out hk2_ (fun h2_ => by have u1_ := GBg1.out; have u2_ : w16_.heap.size ≤ g1 ∧ g1 < w17_.heap.size := h2_; have := Z2.out; have := Z3.out; have := Z4.out; have := Z5.out; have := Z6.out; have := Z7.out; have := Z8.out; have := Z9.out; have := Z10.out; have := Z11.out; have := Z12.out; have := Z13.out; have := Z14.out; have := Z15.out; have := Z16.out; have := ZJ7.out; omega)); have m6_ := xm (blk_kept BKg3.out hk2_ (fun h2_ => by have u1_ := GBg3.out; have u2_ : w16_.heap.size ≤ g3 ∧ g3 < w17_.heap.size := h2_; have := Z3.out; have := Z4.out; have := Z5.out; have := Z6.out; have := Z7.out; have := Z8.out; have := Z9.out; have := Z10.out; have := Z11.out; have := Z12.out; have := Z13.out; have := Z14.out; have := Z15.out; have := Z16.out; have := ZJ7.out; omega)); have m7_ := xm (blk_kept BKg39.out hk2_ (fun h2_ => by have u1_ := GBg39.out; have u2_ : w16_.heap.size ≤ g39 ∧ g39 < w17_.heap.size := h2_; have := Z8.out; have := Z9.out; have := Z10.out; have := Z11.out; have := Z12.out; have := Z13.out; have := Z14.out; have := Z15.out; have := Z16.out; have := ZJ7.out; omega)); have m8_ := xm (blk_kept BKg50.out hk2_ (fun h2_ => by have u1_ := GBg50.out; have u2_ : w16_.heap.size ≤ g50 ∧ g50 < w17_.heap.size := h2_; have := Z11.out; have := Z12.out; have := Z13.out; have := Z14.out; have := Z15.out; have := Z16.out; have := ZJ7.out; omega)); have m9_ := xm (blk_kept BKg60.out hk2_ (fun h2_ => by have u1_ := GBg60.out; have u2_ : w16_.heap.size ≤ g60 ∧ g60 < w17_.heap.size := h2_; have := Z14.out; have := Z15.out; have := Z16.out; have := ZJ7.out; omega)); clear F35 F44 F54 F64 F71 BKg1 BKg3 BKg39 BKg50 BKg60; have F35 := m0_; have F44 := m1_; have F54 := m2_; have F64 := m3_; have F71 := m4_; have BKg1 := m5_; have BKg3 := m6_; have BKg39 := m7_; have BKg50 := m8_; have BKg60 := m9_; clear m0_ m1_ m2_ m3_ m4_ m5_ m6_ m7_ m8_ m9_; clear HB BKg77; have HB := mb_; have BKg77 := xm hx_; clear mb_ hx_ hk_ hk2_ hw_ ge_; clear hcg1_0 hfg1_0; obtain ⟨hcg1_0, hfg1_0⟩ := laws_FnExactJoinRows.cs1 BKg1.out; clear hcg3_0 hfg3_0; obtain ⟨hcg3_0, hfg3_0⟩ := laws_FnExactJoinRows.cs1 BKg3.out; clear hcg39_0 hfg39_0; obtain ⟨hcg39_0, hfg39_0⟩ := laws_FnExactJoinRows.cs1 BKg39.out; clear hcg50_0 hfg50_0; obtain ⟨hcg50_0, hfg50_0⟩ := laws_FnExactJoinRows.cs1 BKg50.out; clear hcg60_0 hfg60_0; obtain ⟨hcg60_0, hfg60_0⟩ := laws_FnExactJoinRows.cs1 BKg60.out; clear hcg77_0 hfg77_0; obtain ⟨hcg77_0, hfg77_0⟩ := laws_FnExactJoinRows.cs1 BKg77.out)
  | ((with_reducible refine gate_callee (f := 23) rfl ?_); refine goesL_ (some 60) rfl rfl Try.func23 (by kernel_rfl) rfl #[.agg #[.slice A72 t70_0.length c73], .agg #[.slice A33 t32_0.length c34]] rfl mB ?_; refine (laws_eqRow.calls k _ _ t70_0 _ _ t32_0 true _ (Kd.R_reads' F71.out).2.2 (Kd.R_reads' F71.out).2.1 (Kd.R_reads' F35.out).2.2 (Kd.R_reads' F35.out).2.1 t80A.out).mono ?_; rintro e w19_ ⟨rfl, hb_⟩; refine ⟨_, rfl, ?_⟩; have Z19 := xm (hb_.size : w18_.heap.size ≤ w19_.heap.size); have hk_ := Kept.of_below hb_ (fun _ => False); have m0_ := xm (Kd.R_kept F35.out hk_ (fun _ _ h_ => h_)); have m1_ := xm (Kd.R_kept F44.out hk_ (fun _ _ h_ => h_)); have m2_ := xm (Kd.R_kept F54.out hk_ (fun _ _ h_ => h_)); have m3_ := xm (Kd.S_kept F64.out hk_ (fun _ _ h_ => h_)); have m4_ := xm (Kd.R_kept F71.out hk_ (fun _ _ h_ => h_)); have m5_ := xm (blk_kept BKg1.out hk_ (fun h_ => h_)); have m6_ := xm (blk_kept BKg3.out hk_ (fun h_ => h_)); have m7_ := xm (blk_kept BKg39.out hk_ (fun h_ => h_)); have m8_ := xm (blk_kept BKg50.out hk_ (fun h_ => h_)); have m9_ := xm (blk_kept BKg60.out hk_ (fun h_ => h_)); have m10_ := xm (blk_kept BKg77.out hk_ (fun h_ => h_)); clear F35 F44 F54 F64 F71 BKg1 BKg3 BKg39 BKg50 BKg60 BKg77; have F35 := m0_; have F44 := m1_; have F54 := m2_; have F64 := m3_; have F71 := m4_; have BKg1 := m5_; have BKg3 := m6_; have BKg39 := m7_; have BKg50 := m8_; have BKg60 := m9_; have BKg77 := m10_; clear m0_ m1_ m2_ m3_ m4_ m5_ m6_ m7_ m8_ m9_ m10_; have m0_ := xm (below_step (w := w) HB.out hb_); clear HB; have HB := m0_; clear m0_ hb_ hk_; clear hcg1_0 hfg1_0; obtain ⟨hcg1_0, hfg1_0⟩ := laws_FnExactJoinRows.cs1 BKg1.out; clear hcg3_0 hfg3_0; obtain ⟨hcg3_0, hfg3_0⟩ := laws_FnExactJoinRows.cs1 BKg3.out; clear hcg39_0 hfg39_0; obtain ⟨hcg39_0, hfg39_0⟩ := laws_FnExactJoinRows.cs1 BKg39.out; clear hcg50_0 hfg50_0; obtain ⟨hcg50_0, hfg50_0⟩ := laws_FnExactJoinRows.cs1 BKg50.out; clear hcg60_0 hfg60_0; obtain ⟨hcg60_0, hfg60_0⟩ := laws_FnExactJoinRows.cs1 BKg60.out; clear hcg77_0 hfg77_0; obtain ⟨hcg77_0, hfg77_0⟩ := laws_FnExactJoinRows.cs1 BKg77.out))
 have hk_ := Kept.drew (Kept.refl w19_ (fun _ => False))
 have m0_ := xm (Kd.R_kept F35.out hk_ (fun _ _ h_ => h_))
 have m1_ := xm (Kd.R_kept F44.out hk_ (fun _ _ h_ => h_))
 have m2_ := xm (Kd.R_kept F54.out hk_ (fun _ _ h_ => h_))
 have m3_ := xm (Kd.S_kept F64.out hk_ (fun _ _ h_ => h_))
 have m4_ := xm (Kd.R_kept F71.out hk_ (fun _ _ h_ => h_))
 have m5_ := xm (blk_kept BKg1.out hk_ (fun h_ => h_))
 have m6_ := xm (blk_kept BKg3.out hk_ (fun h_ => h_))
 have m7_ := xm (blk_kept BKg39.out hk_ (fun h_ => h_))
 have m8_ := xm (blk_kept BKg50.out hk_ (fun h_ => h_))
 have m9_ := xm (blk_kept BKg60.out hk_ (fun h_ => h_))
 have m10_ := xm (blk_kept BKg77.out hk_ (fun h_ => h_))
 clear F35 F44 F54 F64 F71 BKg1 BKg3 BKg39 BKg50 BKg60 BKg77
 have F35 := m0_
 have F44 := m1_
 have F54 := m2_
 have F64 := m3_
 have F71 := m4_
 have BKg1 := m5_
 have BKg3 := m6_
 have BKg39 := m7_
 have BKg50 := m8_
 have BKg60 := m9_
 have BKg77 := m10_
 clear m0_ m1_ m2_ m3_ m4_ m5_ m6_ m7_ m8_ m9_ m10_
 have m0_ := xm (xd HB.out)
 clear HB hk_
 have HB := m0_
 clear m0_
 have Z20 : Aside0 (w19_.heap.size ≤ w19_.drew.heap.size) := xm (Nat.le_refl _)
 refine start_ (n := 5) (S := fun w' => w'.cell? ⟨g50, 0, none⟩ = some (.slice A45 t43_0.length c46) ∧ w'.cell? ⟨g1, 0, none⟩ = some (.slice A0_0 l0_0.length c0_0)) (ds := []) #[false, false, false, false, false] (by kernel_rfl) rfl rfl ⟨(xc BKg50.out 0).trans rfl, (xc BKg1.out 0).trans rfl⟩ (fun hHeld => ?_)
 generalize w19_.drew = w20_ at F35 F44 F54 F64 F71 BKg1 BKg3 BKg39 BKg50 BKg60 BKg77 Z20 HB hHeld ⊢
 refine tx 0 5 1 rfl rfl (by kernel_rfl) hHeld (by rintro w' ⟨s0, s1⟩; go_simp; with_reducible rfl) ?_
 refine tx 1 5 3 rfl rfl (by kernel_rfl) hHeld (by rintro w' ⟨s0, s1⟩; go_simp; with_reducible rfl) ?_
 refine one_ (i := 2) (N := some 69) #[true, true, true, false, false] rfl rfl (by kernel_rfl) (by decide) (fun K hK => ?_)
 refine goes_ Try.func20 (by kernel_rfl) rfl #[.agg #[.slice A0_0 l0_0.length c0_0]] (by rfl) rfl rfl mB ?_
 refine (laws_toRow.calls k _ _ l0_0 t83_0 _ (Kd.C_below HR0_0.out HB.out) HC0_0.out t83A.out).mono ?_
 rintro e w21_ ⟨v0_, rfl, h0_, hb_⟩
 refine ⟨_, rfl, ?_⟩
 have Z21 := xm (hb_.size : w20_.heap.size ≤ w21_.heap.size)
 have hk_ := Kept.of_below hb_ (fun _ => False)
 obtain ⟨A85, c86, rfl⟩ := Kd.R_slice h0_
 obtain ⟨P87, p1_, p2_, p3_⟩ := hideT (base := w.heap.size) rfl h0_ (szOf (w := w) HB.out)
 have F84 := xm p1_
 have B88 : Aside0 (∀ k_, P87 k_ → w20_.heap.size ≤ k_ ∧ k_ < w21_.heap.size) := xm p2_
 have T89 := xm p3_
 clear p1_ p2_ p3_
 have m0_ := xm (Kd.R_kept F35.out hk_ (fun _ _ h_ => h_))
 have m1_ := xm (Kd.R_kept F44.out hk_ (fun _ _ h_ => h_))
 have m2_ := xm (Kd.R_kept F54.out hk_ (fun _ _ h_ => h_))
 have m3_ := xm (Kd.S_kept F64.out hk_ (fun _ _ h_ => h_))
 have m4_ := xm (Kd.R_kept F71.out hk_ (fun _ _ h_ => h_))
 have m5_ := xm (blk_kept BKg1.out hk_ (fun h_ => h_))
 have m6_ := xm (blk_kept BKg3.out hk_ (fun h_ => h_))
 have m7_ := xm (blk_kept BKg39.out hk_ (fun h_ => h_))
 have m8_ := xm (blk_kept BKg50.out hk_ (fun h_ => h_))
 have m9_ := xm (blk_kept BKg60.out hk_ (fun h_ => h_))
 have m10_ := xm (blk_kept BKg77.out hk_ (fun h_ => h_))
 clear F35 F44 F54 F64 F71 BKg1 BKg3 BKg39 BKg50 BKg60 BKg77
 have F35 := m0_
 have F44 := m1_
 have F54 := m2_
 have F64 := m3_
 have F71 := m4_
 have BKg1 := m5_
 have BKg3 := m6_
 have BKg39 := m7_
 have BKg50 := m8_
 have BKg60 := m9_
 have BKg77 := m10_
 clear m0_ m1_ m2_ m3_ m4_ m5_ m6_ m7_ m8_ m9_ m10_
 have m0_ := xm (below_step (w := w) HB.out hb_)
 clear HB
 have HB := m0_
 clear m0_ hb_ hk_ h0_
 refine hK.out _ _ ⟨(xc BKg50.out 0).trans rfl, (xc BKg1.out 0).trans rfl⟩ (fun hHeld => ?_)
 clear hK K
 refine norm_ (a' := ?_) ?_ ?_
 rotate_left
 ·show Act.put _ (some 69) _ = _
  simp only [Act.put, xi, xj, xk, i64_w, i32_w]
  rfl
 refine one_ (i := 3) (N := some 70) #[true, true, true, true, false] rfl rfl (by kernel_rfl) (by decide) (fun K hK => ?_)
 refine goes_ Try.func23 (by kernel_rfl) rfl #[.agg #[.slice A45 t43_0.length c46], .agg #[.slice A85 t83_0.length c86]] (by rfl) rfl rfl mB ?_
 refine (laws_eqRow.calls k _ _ t43_0 _ _ t83_0 true _ (Kd.R_reads' F44.out).2.2 (Kd.R_reads' F44.out).2.1 (Kd.R_reads' F84.out).2.2 (Kd.R_reads' F84.out).2.1 t90A.out).mono ?_
 rintro e w22_ ⟨rfl, hb_⟩
 refine ⟨_, rfl, ?_⟩
 have Z22 := xm (hb_.size : w21_.heap.size ≤ w22_.heap.size)
 have hk_ := Kept.of_below hb_ (fun _ => False)
 have m0_ := xm (Kd.R_kept F35.out hk_ (fun _ _ h_ => h_))
 have m1_ := xm (Kd.R_kept F44.out hk_ (fun _ _ h_ => h_))
 have m2_ := xm (Kd.R_kept F54.out hk_ (fun _ _ h_ => h_))
 have m3_ := xm (Kd.S_kept F64.out hk_ (fun _ _ h_ => h_))
 have m4_ := xm (Kd.R_kept F71.out hk_ (fun _ _ h_ => h_))
 have m5_ := xm (Kd.R_kept F84.out hk_ (fun _ _ h_ => h_))
 have m6_ := xm (blk_kept BKg1.out hk_ (fun h_ => h_))
 have m7_ := xm (blk_kept BKg3.out hk_ (fun h_ => h_))
 have m8_ := xm (blk_kept BKg39.out hk_ (fun h_ => h_))
 have m9_ := xm (blk_kept BKg50.out hk_ (fun h_ => h_))
 have m10_ := xm (blk_kept BKg60.out hk_ (fun h_ => h_))
 have m11_ := xm (blk_kept BKg77.out hk_ (fun h_ => h_))
 clear F35 F44 F54 F64 F71 F84 BKg1 BKg3 BKg39 BKg50 BKg60 BKg77
 have F35 := m0_
 have F44 := m1_
 have F54 := m2_
 have F64 := m3_
 have F71 := m4_
 have F84 := m5_
 have BKg1 := m6_
 have BKg3 := m7_
 have BKg39 := m8_
 have BKg50 := m9_
 have BKg60 := m10_
 have BKg77 := m11_
 clear m0_ m1_ m2_ m3_ m4_ m5_ m6_ m7_ m8_ m9_ m10_ m11_
 have m0_ := xm (below_step (w := w) HB.out hb_)
 clear HB
 have HB := m0_
 clear m0_ hb_ hk_
 refine hK.out _ _ ⟨(xc BKg50.out 0).trans rfl, (xc BKg1.out 0).trans rfl⟩ (fun hHeld => ?_)
 clear hK K
 refine norm_ (a' := ?_) ?_ ?_
 rotate_left
 ·show Act.put _ (some 70) _ = _
  simp only [Act.put, xi, xj, xk, i64_w, i32_w]
  rfl
 refine px 4 5 31 (by kernel_rfl) ?_
 refine done_ (by kernel_rfl) ?_
 go_wp2
 clear hcg1_0 hfg1_0
 obtain ⟨hcg1_0, hfg1_0⟩ := laws_FnExactJoinRows.cs1 BKg1.out
 clear hcg3_0 hfg3_0
 obtain ⟨hcg3_0, hfg3_0⟩ := laws_FnExactJoinRows.cs1 BKg3.out
 clear hcg39_0 hfg39_0
 obtain ⟨hcg39_0, hfg39_0⟩ := laws_FnExactJoinRows.cs1 BKg39.out
 clear hcg50_0 hfg50_0
 obtain ⟨hcg50_0, hfg50_0⟩ := laws_FnExactJoinRows.cs1 BKg50.out
 clear hcg60_0 hfg60_0
 obtain ⟨hcg60_0, hfg60_0⟩ := laws_FnExactJoinRows.cs1 BKg60.out
 clear hcg77_0 hfg77_0
 obtain ⟨hcg77_0, hfg77_0⟩ := laws_FnExactJoinRows.cs1 BKg77.out
 have hk_ := Kept.drew (Kept.refl w22_ (fun _ => False))
 have m0_ := xm (Kd.R_kept F35.out hk_ (fun _ _ h_ => h_))
 have m1_ := xm (Kd.R_kept F44.out hk_ (fun _ _ h_ => h_))
 have m2_ := xm (Kd.R_kept F54.out hk_ (fun _ _ h_ => h_))
 have m3_ := xm (Kd.S_kept F64.out hk_ (fun _ _ h_ => h_))
 have m4_ := xm (Kd.R_kept F71.out hk_ (fun _ _ h_ => h_))
 have m5_ := xm (Kd.R_kept F84.out hk_ (fun _ _ h_ => h_))
 have m6_ := xm (blk_kept BKg1.out hk_ (fun h_ => h_))
 have m7_ := xm (blk_kept BKg3.out hk_ (fun h_ => h_))
 have m8_ := xm (blk_kept BKg39.out hk_ (fun h_ => h_))
 have m9_ := xm (blk_kept BKg50.out hk_ (fun h_ => h_))
 have m10_ := xm (blk_kept BKg60.out hk_ (fun h_ => h_))
 have m11_ := xm (blk_kept BKg77.out hk_ (fun h_ => h_))
 clear F35 F44 F54 F64 F71 F84 BKg1 BKg3 BKg39 BKg50 BKg60 BKg77
 have F35 := m0_
 have F44 := m1_
 have F54 := m2_
 have F64 := m3_
 have F71 := m4_
 have F84 := m5_
 have BKg1 := m6_
 have BKg3 := m7_
 have BKg39 := m8_
 have BKg50 := m9_
 have BKg60 := m10_
 have BKg77 := m11_
 clear m0_ m1_ m2_ m3_ m4_ m5_ m6_ m7_ m8_ m9_ m10_ m11_
 have m0_ := xm (xd HB.out)
 clear HB hk_
 have HB := m0_
 clear m0_
 have Z23 : Aside0 (w22_.heap.size ≤ w22_.drew.heap.size) := xm (Nat.le_refl _)
 refine start_ (n := 5) (S := fun w' => w'.cell? ⟨g60, 0, none⟩ = some (.slice A55 t53_0.length c56) ∧ w'.cell? ⟨g3, 0, none⟩ = some (.slice A1_0 l1_0.length c1_0)) (ds := []) #[false, false, false, false, false] (by kernel_rfl) rfl rfl ⟨(xc BKg60.out 0).trans rfl, (xc BKg3.out 0).trans rfl⟩ (fun hHeld => ?_)
 generalize w22_.drew = w23_ at F35 F44 F54 F64 F71 F84 BKg1 BKg3 BKg39 BKg50 BKg60 BKg77 Z23 HB hHeld ⊢
 refine tx 0 5 1 rfl rfl (by kernel_rfl) hHeld (by rintro w' ⟨s0, s1⟩; go_simp; with_reducible rfl) ?_
 refine tx 1 5 3 rfl rfl (by kernel_rfl) hHeld (by rintro w' ⟨s0, s1⟩; go_simp; with_reducible rfl) ?_
 refine one_ (i := 2) (N := some 74) #[true, true, true, false, false] rfl rfl (by kernel_rfl) (by decide) (fun K hK => ?_)
 refine goes_ Try.func20 (by kernel_rfl) rfl #[.agg #[.slice A1_0 l1_0.length c1_0]] (by rfl) rfl rfl mB ?_
 refine (laws_toRow.calls k _ _ l1_0 t92_0 _ (Kd.C_below HR1_0.out HB.out) HC1_0.out t92A.out).mono ?_
 rintro e w24_ ⟨v0_, rfl, h0_, hb_⟩
 refine ⟨_, rfl, ?_⟩
 have Z24 := xm (hb_.size : w23_.heap.size ≤ w24_.heap.size)
 have hk_ := Kept.of_below hb_ (fun _ => False)
 obtain ⟨A94, c95, rfl⟩ := Kd.R_slice h0_
 obtain ⟨P96, p1_, p2_, p3_⟩ := hideT (base := w.heap.size) rfl h0_ (szOf (w := w) HB.out)
 have F93 := xm p1_
 have B97 : Aside0 (∀ k_, P96 k_ → w23_.heap.size ≤ k_ ∧ k_ < w24_.heap.size) := xm p2_
 have T98 := xm p3_
 clear p1_ p2_ p3_
 have m0_ := xm (Kd.R_kept F35.out hk_ (fun _ _ h_ => h_))
 have m1_ := xm (Kd.R_kept F44.out hk_ (fun _ _ h_ => h_))
 have m2_ := xm (Kd.R_kept F54.out hk_ (fun _ _ h_ => h_))
 have m3_ := xm (Kd.S_kept F64.out hk_ (fun _ _ h_ => h_))
 have m4_ := xm (Kd.R_kept F71.out hk_ (fun _ _ h_ => h_))
 have m5_ := xm (Kd.R_kept F84.out hk_ (fun _ _ h_ => h_))
 have m6_ := xm (blk_kept BKg1.out hk_ (fun h_ => h_))
 have m7_ := xm (blk_kept BKg3.out hk_ (fun h_ => h_))
 have m8_ := xm (blk_kept BKg39.out hk_ (fun h_ => h_))
 have m9_ := xm (blk_kept BKg50.out hk_ (fun h_ => h_))
 have m10_ := xm (blk_kept BKg60.out hk_ (fun h_ => h_))
 have m11_ := xm (blk_kept BKg77.out hk_ (fun h_ => h_))
 clear F35 F44 F54 F64 F71 F84 BKg1 BKg3 BKg39 BKg50 BKg60 BKg77
 have F35 := m0_
 have F44 := m1_
 have F54 := m2_
 have F64 := m3_
 have F71 := m4_
 have F84 := m5_
 have BKg1 := m6_
 have BKg3 := m7_
 have BKg39 := m8_
 have BKg50 := m9_
 have BKg60 := m10_
 have BKg77 := m11_
 clear m0_ m1_ m2_ m3_ m4_ m5_ m6_ m7_ m8_ m9_ m10_ m11_
 have m0_ := xm (below_step (w := w) HB.out hb_)
 clear HB
 have HB := m0_
 clear m0_ hb_ hk_ h0_
 refine hK.out _ _ ⟨(xc BKg60.out 0).trans rfl, (xc BKg3.out 0).trans rfl⟩ (fun hHeld => ?_)
 clear hK K
 refine norm_ (a' := ?_) ?_ ?_
 rotate_left
 ·show Act.put _ (some 74) _ = _
  simp only [Act.put, xi, xj, xk, i64_w, i32_w]
  rfl
 refine one_ (i := 3) (N := some 75) #[true, true, true, true, false] rfl rfl (by kernel_rfl) (by decide) (fun K hK => ?_)
 refine goes_ Try.func23 (by kernel_rfl) rfl #[.agg #[.slice A55 t53_0.length c56], .agg #[.slice A94 t92_0.length c95]] (by rfl) rfl rfl mB ?_
 refine (laws_eqRow.calls k _ _ t53_0 _ _ t92_0 true _ (Kd.R_reads' F54.out).2.2 (Kd.R_reads' F54.out).2.1 (Kd.R_reads' F93.out).2.2 (Kd.R_reads' F93.out).2.1 t99A.out).mono ?_
 rintro e w25_ ⟨rfl, hb_⟩
 refine ⟨_, rfl, ?_⟩
 have Z25 := xm (hb_.size : w24_.heap.size ≤ w25_.heap.size)
 have hk_ := Kept.of_below hb_ (fun _ => False)
 have m0_ := xm (Kd.R_kept F35.out hk_ (fun _ _ h_ => h_))
 have m1_ := xm (Kd.R_kept F44.out hk_ (fun _ _ h_ => h_))
 have m2_ := xm (Kd.R_kept F54.out hk_ (fun _ _ h_ => h_))
 have m3_ := xm (Kd.S_kept F64.out hk_ (fun _ _ h_ => h_))
 have m4_ := xm (Kd.R_kept F71.out hk_ (fun _ _ h_ => h_))
 have m5_ := xm (Kd.R_kept F84.out hk_ (fun _ _ h_ => h_))
 have m6_ := xm (Kd.R_kept F93.out hk_ (fun _ _ h_ => h_))
 have m7_ := xm (blk_kept BKg1.out hk_ (fun h_ => h_))
 have m8_ := xm (blk_kept BKg3.out hk_ (fun h_ => h_))
 have m9_ := xm (blk_kept BKg39.out hk_ (fun h_ => h_))
 have m10_ := xm (blk_kept BKg50.out hk_ (fun h_ => h_))
 have m11_ := xm (blk_kept BKg60.out hk_ (fun h_ => h_))
 have m12_ := xm (blk_kept BKg77.out hk_ (fun h_ => h_))
 clear F35 F44 F54 F64 F71 F84 F93 BKg1 BKg3 BKg39 BKg50 BKg60 BKg77
 have F35 := m0_
 have F44 := m1_
 have F54 := m2_
 have F64 := m3_
 have F71 := m4_
 have F84 := m5_
 have F93 := m6_
 have BKg1 := m7_
 have BKg3 := m8_
 have BKg39 := m9_
 have BKg50 := m10_
 have BKg60 := m11_
 have BKg77 := m12_
 clear m0_ m1_ m2_ m3_ m4_ m5_ m6_ m7_ m8_ m9_ m10_ m11_ m12_
 have m0_ := xm (below_step (w := w) HB.out hb_)
 clear HB
 have HB := m0_
 clear m0_ hb_ hk_
 refine hK.out _ _ ⟨(xc BKg60.out 0).trans rfl, (xc BKg3.out 0).trans rfl⟩ (fun hHeld => ?_)
 clear hK K
 refine norm_ (a' := ?_) ?_ ?_
 rotate_left
 ·show Act.put _ (some 75) _ = _
  simp only [Act.put, xi, xj, xk, i64_w, i32_w]
  rfl
 refine px 4 5 31 (by kernel_rfl) ?_
 refine done_ (by kernel_rfl) ?_
 clear hcg1_0 hfg1_0
 obtain ⟨hcg1_0, hfg1_0⟩ := laws_FnExactJoinRows.cs1 BKg1.out
 clear hcg3_0 hfg3_0
 obtain ⟨hcg3_0, hfg3_0⟩ := laws_FnExactJoinRows.cs1 BKg3.out
 clear hcg39_0 hfg39_0
 obtain ⟨hcg39_0, hfg39_0⟩ := laws_FnExactJoinRows.cs1 BKg39.out
 clear hcg50_0 hfg50_0
 obtain ⟨hcg50_0, hfg50_0⟩ := laws_FnExactJoinRows.cs1 BKg50.out
 clear hcg60_0 hfg60_0
 obtain ⟨hcg60_0, hfg60_0⟩ := laws_FnExactJoinRows.cs1 BKg60.out
 clear hcg77_0 hfg77_0
 obtain ⟨hcg77_0, hfg77_0⟩ := laws_FnExactJoinRows.cs1 BKg77.out
 go_wp2_with (first
  | ((with_reducible refine gate_callee (f := 54) rfl ?_); refine goesL_ (some 79) rfl rfl Try.func54 (by kernel_rfl) rfl #[.slice A2 l2.length c2] rfl mB ?_; refine (laws_toIntSS.calls k _ _ l2 t101_0 _ (Kd.C_below HR2.out HB.out) HC2.out t101A.out).mono ?_; rintro e w26_ ⟨v0_, rfl, h0_, hb_⟩; refine ⟨_, rfl, ?_⟩; have Z26 := xm (hb_.size : w25_.heap.size ≤ w26_.heap.size); have hk_ := Kept.of_below hb_ (fun _ => False); obtain ⟨A103, c104, rfl⟩ := Kd.S_slice h0_; obtain ⟨P105, p1_, p2_, p3_⟩ := hideS (base := w.heap.size) h0_ (szOf (w := w) HB.out); have F102 := xm p1_; have B106 : Aside0 (∀ k_, P105 k_ → w25_.heap.size ≤ k_ ∧ k_ < w26_.heap.size) := xm p2_; have T107 := xm p3_; clear p1_ p2_ p3_; have m0_ := xm (Kd.R_kept F35.out hk_ (fun _ _ h_ => h_)); have m1_ := xm (Kd.R_kept F44.out hk_ (fun _ _ h_ => h_)); have m2_ := xm (Kd.R_kept F54.out hk_ (fun _ _ h_ => h_)); have m3_ := xm (Kd.S_kept F64.out hk_ (fun _ _ h_ => h_)); have m4_ := xm (Kd.R_kept F71.out hk_ (fun _ _ h_ => h_)); have m5_ := xm (Kd.R_kept F84.out hk_ (fun _ _ h_ => h_)); have m6_ := xm (Kd.R_kept F93.out hk_ (fun _ _ h_ => h_)); have m7_ := xm (blk_kept BKg1.out hk_ (fun h_ => h_)); have m8_ := xm (blk_kept BKg3.out hk_ (fun h_ => h_)); have m9_ := xm (blk_kept BKg39.out hk_ (fun h_ => h_)); have m10_ := xm (blk_kept BKg50.out hk_ (fun h_ => h_)); have m11_ := xm (blk_kept BKg60.out hk_ (fun h_ => h_)); have m12_ := xm (blk_kept BKg77.out hk_ (fun h_ => h_)); clear F35 F44 F54 F64 F71 F84 F93 BKg1 BKg3 BKg39 BKg50 BKg60 BKg77; have F35 := m0_; have F44 := m1_; have F54 := m2_; have F64 := m3_; have F71 := m4_; have F84 := m5_; have F93 := m6_; have BKg1 := m7_; have BKg3 := m8_; have BKg39 := m9_; have BKg50 := m10_; have BKg60 := m11_; have BKg77 := m12_; clear m0_ m1_ m2_ m3_ m4_ m5_ m6_ m7_ m8_ m9_ m10_ m11_ m12_; have m0_ := xm (below_step (w := w) HB.out hb_); clear HB; have HB := m0_; clear m0_ hb_ hk_ h0_; clear hcg1_0 hfg1_0; obtain ⟨hcg1_0, hfg1_0⟩ := laws_FnExactJoinRows.cs1 BKg1.out; clear hcg3_0 hfg3_0; obtain ⟨hcg3_0, hfg3_0⟩ := laws_FnExactJoinRows.cs1 BKg3.out; clear hcg39_0 hfg39_0; obtain ⟨hcg39_0, hfg39_0⟩ := laws_FnExactJoinRows.cs1 BKg39.out; clear hcg50_0 hfg50_0; obtain ⟨hcg50_0, hfg50_0⟩ := laws_FnExactJoinRows.cs1 BKg50.out; clear hcg60_0 hfg60_0; obtain ⟨hcg60_0, hfg60_0⟩ := laws_FnExactJoinRows.cs1 BKg60.out; clear hcg77_0 hfg77_0; obtain ⟨hcg77_0, hfg77_0⟩ := laws_FnExactJoinRows.cs1 BKg77.out)
  | ((with_reducible refine gate_callee (f := 56) rfl ?_); refine goesL_ (some 80) rfl rfl Try.func56 (by kernel_rfl) rfl #[.slice A65 t63_0.length c66, .slice A103 t101_0.length c104] rfl mB ?_; refine (laws_eqIntSS.calls k _ _ t63_0 _ _ t101_0 true _ (Kd.S_reads' F64.out).2.2 (Kd.S_reads' F64.out).2.1 (Kd.S_reads' F102.out).2.2 (Kd.S_reads' F102.out).2.1 t108A.out).mono ?_; rintro e w27_ ⟨rfl, hb_⟩; refine ⟨_, rfl, ?_⟩; replace hb_ := hb_.below; have Z27 := xm (hb_.size : w26_.heap.size ≤ w27_.heap.size); have hk_ := Kept.of_below hb_ (fun _ => False); have m0_ := xm (Kd.R_kept F35.out hk_ (fun _ _ h_ => h_)); have m1_ := xm (Kd.R_kept F44.out hk_ (fun _ _ h_ => h_)); have m2_ := xm (Kd.R_kept F54.out hk_ (fun _ _ h_ => h_)); have m3_ := xm (Kd.S_kept F64.out hk_ (fun _ _ h_ => h_)); have m4_ := xm (Kd.R_kept F71.out hk_ (fun _ _ h_ => h_)); have m5_ := xm (Kd.R_kept F84.out hk_ (fun _ _ h_ => h_)); have m6_ := xm (Kd.R_kept F93.out hk_ (fun _ _ h_ => h_)); have m7_ := xm (Kd.S_kept F102.out hk_ (fun _ _ h_ => h_)); have m8_ := xm (blk_kept BKg1.out hk_ (fun h_ => h_)); have m9_ := xm (blk_kept BKg3.out hk_ (fun h_ => h_)); have m10_ := xm (blk_kept BKg39.out hk_ (fun h_ => h_)); have m11_ := xm (blk_kept BKg50.out hk_ (fun h_ => h_)); have m12_ := xm (blk_kept BKg60.out hk_ (fun h_ => h_)); have m13_ := xm (blk_kept BKg77.out hk_ (fun h_ => h_)); clear F35 F44 F54 F64 F71 F84 F93 F102 BKg1 BKg3 BKg39 BKg50 BKg60 BKg77; have F35 := m0_; have F44 := m1_; have F54 := m2_; have F64 := m3_; have F71 := m4_; have F84 := m5_; have F93 := m6_; have F102 := m7_; have BKg1 := m8_; have BKg3 := m9_; have BKg39 := m10_; have BKg50 := m11_; have BKg60 := m12_; have BKg77 := m13_; clear m0_ m1_ m2_ m3_ m4_ m5_ m6_ m7_ m8_ m9_ m10_ m11_ m12_ m13_; have m0_ := xm (below_step (w := w) HB.out hb_); clear HB; have HB := m0_; clear m0_ hb_ hk_; clear hcg1_0 hfg1_0; obtain ⟨hcg1_0, hfg1_0⟩ := laws_FnExactJoinRows.cs1 BKg1.out; clear hcg3_0 hfg3_0; obtain ⟨hcg3_0, hfg3_0⟩ := laws_FnExactJoinRows.cs1 BKg3.out; clear hcg39_0 hfg39_0; obtain ⟨hcg39_0, hfg39_0⟩ := laws_FnExactJoinRows.cs1 BKg39.out; clear hcg50_0 hfg50_0; obtain ⟨hcg50_0, hfg50_0⟩ := laws_FnExactJoinRows.cs1 BKg50.out; clear hcg60_0 hfg60_0; obtain ⟨hcg60_0, hfg60_0⟩ := laws_FnExactJoinRows.cs1 BKg60.out; clear hcg77_0 hfg77_0; obtain ⟨hcg77_0, hfg77_0⟩ := laws_FnExactJoinRows.cs1 BKg77.out)
  | ((with_reducible refine gate_callee (f := 25) rfl ?_); refine goesL_ (some 84) rfl rfl Try.func25 (by kernel_rfl) rfl #[.agg #[.slice A45 t43_0.length c46], .int .i64 1] rfl mB ?_; refine (laws_markRow.calls k P47 (.slice A45 t43_0.length c46) t43_0 1 t110_0 t110_1 w _ HB.out F44.out t110A.out).mono ?_; rintro e w28_ ⟨rfl, h0_, hb_, hkp_⟩; refine ⟨_, rfl, ?_⟩; have Z28 := xm (hkp_.1 : w27_.heap.size ≤ w28_.heap.size); have hk2_ := Kept.mono hkp_ (S' := fun k_ => w8_.heap.size ≤ k_ ∧ k_ < w9_.heap.size) (fun k_ h_ => by exact B48.out k_ h_); have yF44 := xm (Kd.R_reok rfl h0_ (fun k_ e_ => F44.out.1 k_ e_)); have m0_ := xm (Kd.R_kept F35.out hk2_ (fun k_ h_ h2_ => by have u1_ := B37.out k_ h_; have u2_ : w8_.heap.size ≤ k_ ∧ k_ < w9_.heap.size := h2_; have := Z8.out; have := ZJ7.out; omega)); have m1_ := xm (Kd.R_kept F54.out hk2_ (fun k_ h_ h2_ => by have u1_ := B58.out k_ h_; have u2_ : w8_.heap.size ≤ k_ ∧ k_ < w9_.heap.size := h2_; have := Z10.out; have := Z11.out; have := ZJ7.out; omega)); have m2_ := xm (Kd.S_kept F64.out hk2_ (fun k_ h_ h2_ => by have u1_ := B68.out k_ h_; have u2_ : w8_.heap.size ≤ k_ ∧ k_ < w9_.heap.size := h2_; have := Z10.out; have := Z11.out; have := Z12.out; have := Z13.out; have := Z14.out; have := ZJ7.out; omega)); have m3_ := xm (Kd.R_kept F71.out hk2_ (fun k_ h_ h2_ => by have u1_ := B75.out k_ h_; have u2_ : w8_.heap.size ≤ k_ ∧ k_ < w9_.heap.size := h2_; have := Z10.out; have := Z11.out; have := Z12.out; have := Z13.out; have := Z14.out; have := Z15.out; have := ZJ7.out; omega)); have m4_ := xm (Kd.R_kept F84.out hk2_ (fun k_ h_ h2_ => by have u1_ := B88.out k_ h_; have u2_ : w8_.heap.size ≤ k_ ∧ k_ < w9_.heap.size := h2_; have := Z10.out; have := Z11.out; have := Z12.out; have := Z13.out; have := Z14.out; have := Z15.out; have := Z16.out; have := Z17.out; have := Z18.out; have := Z19.out; have := Z20.out; have := ZJ7.out; omega)); have m5_ := xm (Kd.R_kept F93.out hk2_ (fun k_ h_ h2_ => by have u1_ := B97.out k_ h_; have u2_ : w8_.heap.size ≤ k_ ∧ k_ < w9_.heap.size := h2_; have := Z10.out; have := Z11.out; have := Z12.out; have := Z13.out; have := Z14.out; have := Z15.out; have := Z16.out; have := Z17.out; have := Z18.out; have := Z19.out; have := Z20.out; have := Z21.out; have := Z22.out; have := Z23.out; have := ZJ7.out; omega)); have m6_ := xm (Kd.S_kept F102.out hk2_ (fun k_ h_ h2_ => by have u1_ := B106.out k_ h_; have u2_ : w8_.heap.size ≤ k_ ∧ k_ < w9_.heap.size := h2_; have := Z10.out; have := Z11.out; have := Z12.out; have := Z13.out; have := Z14.out; have := Z15.out; have := Z16.out; have := Z17.out; have := Z18.out; have := Z19.out; have := Z20.out; have := Z21.out; have := Z22.out; have := Z23.out; have := Z24.out; have := Z25.out; have := ZJ7.out; omega)); have m7_ := xm (blk_kept BKg1.out hk2_ (fun h2_ => by have u1_ := GBg1.out; have u2_ : w8_.heap.size ≤ g1 ∧ g1 < w9_.heap.size := h2_; have := Z2.out; have := Z3.out; have := Z4.out; have := Z5.out; have := Z6.out; have := Z7.out; have := Z8.out; have := ZJ7.out; omega)); have m8_ := xm (blk_kept BKg3.out hk2_ (fun h2_ => by have u1_ := GBg3.out; have u2_ : w8_.heap.size ≤ g3 ∧ g3 < w9_.heap.size := h2_; have := Z3.out; have := Z4.out; have := Z5.out; have := Z6.out; have := Z7.out; have := Z8.out; have := ZJ7.out; omega)); have m9_ := xm (blk_kept BKg39.out hk2_ (fun h2_ => by have u1_ := GBg39.out; have u2_ : w8_.heap.size ≤ g39 ∧ g39 < w9_.heap.size := h2_; have := Z8.out; have := ZJ7.out; omega)); have m10_ := xm (blk_kept BKg50.out hk2_ (fun h2_ => by have u1_ := GBg50.out; have u2_ : w8_.heap.size ≤ g50 ∧ g50 < w9_.heap.size := h2_; have := ZJ7.out; omega)); have m11_ := xm (blk_kept BKg60.out hk2_ (fun h2_ => by have u1_ := GBg60.out; have u2_ : w8_.heap.size ≤ g60 ∧ g60 < w9_.heap.size := h2_; have := Z10.out; have := Z11.out; have := Z12.out; have := ZJ7.out; omega)); have m12_ := xm (blk_kept BKg77.out hk2_ (fun h2_ => by have u1_ := GBg77.out; have u2_ : w8_.heap.size ≤ g77 ∧ g77 < w9_.heap.size := h2_; have := Z10.out; have := Z11.out; have := Z12.out; have := Z13.out; have := Z14.out; have := Z15.out; have := Z16.out; have := ZJ7.out; omega)); clear F35 F54 F64 F71 F84 F93 F102 BKg1 BKg3 BKg39 BKg50 BKg60 BKg77; have F35 := m0_; have F54 := m1_; have F64 := m2_; have F71 := m3_; have F84 := m4_; have F93 := m5_; have F102 := m6_; have BKg1 := m7_; have BKg3 := m8_; have BKg39 := m9_; have BKg50 := m10_; have BKg60 := m11_; have BKg77 := m12_; clear m0_ m1_ m2_ m3_ m4_ m5_ m6_ m7_ m8_ m9_ m10_ m11_ m12_; clear F44; have F44 := yF44; clear yF44; clear HB; have HB := xm hb_; clear hb_ hkp_ hk2_ h0_; (try clear LEF44); have LEF44 := xm (Kd.R_reads' F44.out).1; clear hcg1_0 hfg1_0; obtain ⟨hcg1_0, hfg1_0⟩ := laws_FnExactJoinRows.cs1 BKg1.out; clear hcg3_0 hfg3_0; obtain ⟨hcg3_0, hfg3_0⟩ := laws_FnExactJoinRows.cs1 BKg3.out; clear hcg39_0 hfg39_0; obtain ⟨hcg39_0, hfg39_0⟩ := laws_FnExactJoinRows.cs1 BKg39.out; clear hcg50_0 hfg50_0; obtain ⟨hcg50_0, hfg50_0⟩ := laws_FnExactJoinRows.cs1 BKg50.out; clear hcg60_0 hfg60_0; obtain ⟨hcg60_0, hfg60_0⟩ := laws_FnExactJoinRows.cs1 BKg60.out; clear hcg77_0 hfg77_0; obtain ⟨hcg77_0, hfg77_0⟩ := laws_FnExactJoinRows.cs1 BKg77.out)
  | ((with_reducible refine gate_callee (f := 25) rfl ?_); refine goesL_ (some 87) rfl rfl Try.func25 (by kernel_rfl) rfl #[.agg #[.slice A55 t53_0.length c56], .int .i64 t110_0] rfl mB ?_; refine (laws_markRow.calls k P57 (.slice A55 t53_0.length c56) t53_0 t110_0 t111_0 t111_1 w _ HB.out F54.out t111A.out).mono ?_; rintro e w29_ ⟨rfl, h0_, hb_, hkp_⟩; refine ⟨_, rfl, ?_⟩; have Z29 := xm (hkp_.1 : w28_.heap.size ≤ w29_.heap.size); have hk2_ := Kept.mono hkp_ (S' := fun k_ => w11_.heap.size ≤ k_ ∧ k_ < w12_.heap.size) (fun k_ h_ => by exact B58.out k_ h_); have yF54 := xm (Kd.R_reok rfl h0_ (fun k_ e_ => F54.out.1 k_ e_)); have m0_ := xm (Kd.R_kept F35.out hk2_ (fun k_ h_ h2_ => by have u1_ := B37.out k_ h_; have u2_ : w11_.heap.size ≤ k_ ∧ k_ < w12_.heap.size := h2_; have := Z8.out; have := Z9.out; have := Z10.out; have := Z11.out; have := ZJ7.out; omega)); have m1_ := xm (Kd.R_kept F44.out hk2_ (fun k_ h_ h2_ => by have u1_ := B48.out k_ h_; have u2_ : w11_.heap.size ≤ k_ ∧ k_ < w12_.heap.size := h2_; have := Z10.out; have := Z11.out; have := ZJ7.out; omega)); have m2_ := xm (Kd.S_kept F64.out hk2_ (fun k_ h_ h2_ => by have u1_ := B68.out k_ h_; have u2_ : w11_.heap.size ≤ k_ ∧ k_ < w12_.heap.size := h2_; have := Z13.out; have := Z14.out; have := ZJ7.out; omega)); have m3_ := xm (Kd.R_kept F71.out hk2_ (fun k_ h_ h2_ => by have u1_ := B75.out k_ h_; have u2_ : w11_.heap.size ≤ k_ ∧ k_ < w12_.heap.size := h2_; have := Z13.out; have := Z14.out; have := Z15.out; have := ZJ7.out; omega)); have m4_ := xm (Kd.R_kept F84.out hk2_ (fun k_ h_ h2_ => by have u1_ := B88.out k_ h_; have u2_ : w11_.heap.size ≤ k_ ∧ k_ < w12_.heap.size := h2_; have := Z13.out; have := Z14.out; have := Z15.out; have := Z16.out; have := Z17.out; have := Z18.out; have := Z19.out; have := Z20.out; have := ZJ7.out; omega)); have m5_ := xm (Kd.R_kept F93.out hk2_ (fun k_ h_ h2_ => by have u1_ := B97.out k_ h_; have u2_ : w11_.heap.size ≤ k_ ∧ k_ < w12_.heap.size := h2_; have := Z13.out; have := Z14.out; have := Z15.out; have := Z16.out; have := Z17.out; have := Z18.out; have := Z19.out; have := Z20.out; have := Z21.out; have := Z22.out; have := Z23.out; have := ZJ7.out; omega)); have m6_ := xm (Kd.S_kept F102.out hk2_ (fun k_ h_ h2_ => by have u1_ := B106.out k_ h_; have u2_ : w11_.heap.size ≤ k_ ∧ k_ < w12_.heap.size := h2_; have := Z13.out; have := Z14.out; have := Z15.out; have := Z16.out; have := Z17.out; have := Z18.out; have := Z19.out; have := Z20.out; have := Z21.out; have := Z22.out; have := Z23.out; have := Z24.out; have := Z25.out; have := ZJ7.out; omega)); have m7_ := xm (blk_kept BKg1.out hk2_ (fun h2_ => by have u1_ := GBg1.out; have u2_ : w11_.heap.size ≤ g1 ∧ g1 < w12_.heap.size := h2_; have := Z2.out; have := Z3.out; have := Z4.out; have := Z5.out; have := Z6.out; have := Z7.out; have := Z8.out; have := Z9.out; have := Z10.out; have := Z11.out; have := ZJ7.out; omega)); have m8_ := xm (blk_kept BKg3.out hk2_ (fun h2_ => by have u1_ := GBg3.out; have u2_ : w11_.heap.size ≤ g3 ∧ g3 < w12_.heap.size := h2_; have := Z3.out; have := Z4.out; have := Z5.out; have := Z6.out; have := Z7.out; have := Z8.out; have := Z9.out; have := Z10.out; have := Z11.out; have := ZJ7.out; omega)); have m9_ := xm (blk_kept BKg39.out hk2_ (fun h2_ => by have u1_ := GBg39.out; have u2_ : w11_.heap.size ≤ g39 ∧ g39 < w12_.heap.size := h2_; have := Z8.out; have := Z9.out; have := Z10.out; have := Z11.out; have := ZJ7.out; omega)); have m10_ := xm (blk_kept BKg50.out hk2_ (fun h2_ => by have u1_ := GBg50.out; have u2_ : w11_.heap.size ≤ g50 ∧ g50 < w12_.heap.size := h2_; have := Z11.out; have := ZJ7.out; omega)); have m11_ := xm (blk_kept BKg60.out hk2_ (fun h2_ => by have u1_ := GBg60.out; have u2_ : w11_.heap.size ≤ g60 ∧ g60 < w12_.heap.size := h2_; have := ZJ7.out; omega)); have m12_ := xm (blk_kept BKg77.out hk2_ (fun h2_ => by have u1_ := GBg77.out; have u2_ : w11_.heap.size ≤ g77 ∧ g77 < w12_.heap.size := h2_; have := Z13.out; have := Z14.out; have := Z15.out; have := Z16.out; have := ZJ7.out; omega)); clear F35 F44 F64 F71 F84 F93 F102 BKg1 BKg3 BKg39 BKg50 BKg60 BKg77; have F35 := m0_; have F44 := m1_; have F64 := m2_; have F71 := m3_; have F84 := m4_; have F93 := m5_; have F102 := m6_; have BKg1 := m7_; have BKg3 := m8_; have BKg39 := m9_; have BKg50 := m10_; have BKg60 := m11_; have BKg77 := m12_; clear m0_ m1_ m2_ m3_ m4_ m5_ m6_ m7_ m8_ m9_ m10_ m11_ m12_; clear F54; have F54 := yF54; clear yF54; clear HB; have HB := xm hb_; clear hb_ hkp_ hk2_ h0_; (try clear LEF54); have LEF54 := xm (Kd.R_reads' F54.out).1; clear hcg1_0 hfg1_0; obtain ⟨hcg1_0, hfg1_0⟩ := laws_FnExactJoinRows.cs1 BKg1.out; clear hcg3_0 hfg3_0; obtain ⟨hcg3_0, hfg3_0⟩ := laws_FnExactJoinRows.cs1 BKg3.out; clear hcg39_0 hfg39_0; obtain ⟨hcg39_0, hfg39_0⟩ := laws_FnExactJoinRows.cs1 BKg39.out; clear hcg50_0 hfg50_0; obtain ⟨hcg50_0, hfg50_0⟩ := laws_FnExactJoinRows.cs1 BKg50.out; clear hcg60_0 hfg60_0; obtain ⟨hcg60_0, hfg60_0⟩ := laws_FnExactJoinRows.cs1 BKg60.out; clear hcg77_0 hfg77_0; obtain ⟨hcg77_0, hfg77_0⟩ := laws_FnExactJoinRows.cs1 BKg77.out)
  | ((with_reducible refine gate_callee (f := 57) rfl ?_); refine goesL_ (some 90) rfl rfl Try.func57 (by kernel_rfl) rfl #[.slice A65 t63_0.length c66, .int .i64 t111_0] rfl mB ?_; refine (laws_markIntSS.calls k P67 (.slice A65 t63_0.length c66) t63_0 t111_0 t112_0 t112_1 w _ HB.out F64.out t112A.out).mono ?_; rintro e w30_ ⟨rfl, h0_, hb_, hkp_⟩; refine ⟨_, rfl, ?_⟩; have Z30 := xm (hkp_.1 : w29_.heap.size ≤ w30_.heap.size); have hk2_ := Kept.mono hkp_ (S' := fun k_ => w14_.heap.size ≤ k_ ∧ k_ < w15_.heap.size) (fun k_ h_ => by exact B68.out k_ h_); have yF64 := xm h0_; have m0_ := xm (Kd.R_kept F35.out hk2_ (fun k_ h_ h2_ => by have u1_ := B37.out k_ h_; have u2_ : w14_.heap.size ≤ k_ ∧ k_ < w15_.heap.size := h2_; have := Z8.out; have := Z9.out; have := Z10.out; have := Z11.out; have := Z12.out; have := Z13.out; have := Z14.out; have := ZJ7.out; omega)); have m1_ := xm (Kd.R_kept F44.out hk2_ (fun k_ h_ h2_ => by have u1_ := B48.out k_ h_; have u2_ : w14_.heap.size ≤ k_ ∧ k_ < w15_.heap.size := h2_; have := Z10.out; have := Z11.out; have := Z12.out; have := Z13.out; have := Z14.out; have := ZJ7.out; omega)); have m2_ := xm (Kd.R_kept F54.out hk2_ (fun k_ h_ h2_ => by have u1_ := B58.out k_ h_; have u2_ : w14_.heap.size ≤ k_ ∧ k_ < w15_.heap.size := h2_; have := Z13.out; have := Z14.out; have := ZJ7.out; omega)); have m3_ := xm (Kd.R_kept F71.out hk2_ (fun k_ h_ h2_ => by have u1_ := B75.out k_ h_; have u2_ : w14_.heap.size ≤ k_ ∧ k_ < w15_.heap.size := h2_; have := ZJ7.out; omega)); have m4_ := xm (Kd.R_kept F84.out hk2_ (fun k_ h_ h2_ => by have u1_ := B88.out k_ h_; have u2_ : w14_.heap.size ≤ k_ ∧ k_ < w15_.heap.size := h2_; have := Z16.out; have := Z17.out; have := Z18.out; have := Z19.out; have := Z20.out; have := ZJ7.out; omega)); have m5_ := xm (Kd.R_kept F93.out hk2_ (fun k_ h_ h2_ => by have u1_ := B97.out k_ h_; have u2_ : w14_.heap.size ≤ k_ ∧ k_ < w15_.heap.size := h2_; have := Z16.out; have := Z17.out; have := Z18.out; have := Z19.out; have := Z20.out; have := Z21.out; have := Z22.out; have := Z23.out; have := ZJ7.out; omega)); have m6_ := xm (Kd.S_kept F102.out hk2_ (fun k_ h_ h2_ => by have u1_ := B106.out k_ h_; have u2_ : w14_.heap.size ≤ k_ ∧ k_ < w15_.heap.size := h2_; have := Z16.out; have := Z17.out; have := Z18.out; have := Z19.out; have := Z20.out; have := Z21.out; have := Z22.out; have := Z23.out; have := Z24.out; have := Z25.out; have := ZJ7.out; omega)); have m7_ := xm (blk_kept BKg1.out hk2_ (fun h2_ => by have u1_ := GBg1.out; have u2_ : w14_.heap.size ≤ g1 ∧ g1 < w15_.heap.size := h2_; have := Z2.out; have := Z3.out; have := Z4.out; have := Z5.out; have := Z6.out; have := Z7.out; have := Z8.out; have := Z9.out; have := Z10.out; have := Z11.out; have := Z12.out; have := Z13.out; have := Z14.out; have := ZJ7.out; omega)); have m8_ := xm (blk_kept BKg3.out hk2_ (fun h2_ => by have u1_ := GBg3.out; have u2_ : w14_.heap.size ≤ g3 ∧ g3 < w15_.heap.size := h2_; have := Z3.out; have := Z4.out; have := Z5.out; have := Z6.out; have := Z7.out; have := Z8.out; have := Z9.out; have := Z10.out; have := Z11.out; have := Z12.out; have := Z13.out; have := Z14.out; have := ZJ7.out; omega)); have m9_ := xm (blk_kept BKg39.out hk2_ (fun h2_ => by have u1_ := GBg39.out; have u2_ : w14_.heap.size ≤ g39 ∧ g39 < w15_.heap.size := h2_; have := Z8.out; have := Z9.out; have := Z10.out; have := Z11.out; have := Z12.out; have := Z13.out; have := Z14.out; have := ZJ7.out; omega)); have m10_ := xm (blk_kept BKg50.out hk2_ (fun h2_ => by have u1_ := GBg50.out; have u2_ : w14_.heap.size ≤ g50 ∧ g50 < w15_.heap.size := h2_; have := Z11.out; have := Z12.out; have := Z13.out; have := Z14.out; have := ZJ7.out; omega)); have m11_ := xm (blk_kept BKg60.out hk2_ (fun h2_ => by have u1_ := GBg60.out; have u2_ : w14_.heap.size ≤ g60 ∧ g60 < w15_.heap.size := h2_; have := Z14.out; have := ZJ7.out; omega)); have m12_ := xm (blk_kept BKg77.out hk2_ (fun h2_ => by have u1_ := GBg77.out; have u2_ : w14_.heap.size ≤ g77 ∧ g77 < w15_.heap.size := h2_; have := Z16.out; have := ZJ7.out; omega)); clear F35 F44 F54 F71 F84 F93 F102 BKg1 BKg3 BKg39 BKg50 BKg60 BKg77; have F35 := m0_; have F44 := m1_; have F54 := m2_; have F71 := m3_; have F84 := m4_; have F93 := m5_; have F102 := m6_; have BKg1 := m7_; have BKg3 := m8_; have BKg39 := m9_; have BKg50 := m10_; have BKg60 := m11_; have BKg77 := m12_; clear m0_ m1_ m2_ m3_ m4_ m5_ m6_ m7_ m8_ m9_ m10_ m11_ m12_; clear F64; have F64 := yF64; clear yF64; clear HB; have HB := xm hb_; clear hb_ hkp_ hk2_ h0_; (try clear LEF64); have LEF64 := xm (Kd.S_reads' F64.out).1; clear hcg1_0 hfg1_0; obtain ⟨hcg1_0, hfg1_0⟩ := laws_FnExactJoinRows.cs1 BKg1.out; clear hcg3_0 hfg3_0; obtain ⟨hcg3_0, hfg3_0⟩ := laws_FnExactJoinRows.cs1 BKg3.out; clear hcg39_0 hfg39_0; obtain ⟨hcg39_0, hfg39_0⟩ := laws_FnExactJoinRows.cs1 BKg39.out; clear hcg50_0 hfg50_0; obtain ⟨hcg50_0, hfg50_0⟩ := laws_FnExactJoinRows.cs1 BKg50.out; clear hcg60_0 hfg60_0; obtain ⟨hcg60_0, hfg60_0⟩ := laws_FnExactJoinRows.cs1 BKg60.out; clear hcg77_0 hfg77_0; obtain ⟨hcg77_0, hfg77_0⟩ := laws_FnExactJoinRows.cs1 BKg77.out)
  | ((with_reducible refine gate_callee (f := 25) rfl ?_); refine goesL_ (some 106) rfl rfl Try.func25 (by kernel_rfl) rfl #[.agg #[.slice A72 t70_0.length c73], .int .i64 1] rfl mB ?_; refine (laws_markRow.calls k P74 (.slice A72 t70_0.length c73) t70_0 1 t117_0 t117_1 w _ HB.out F71.out t117A.out).mono ?_; rintro e w32_ ⟨rfl, h0_, hb_, hkp_⟩; refine ⟨_, rfl, ?_⟩; have Z32 := xm (hkp_.1 : w31_.heap.size ≤ w32_.heap.size); have hk2_ := Kept.mono hkp_ (S' := fun k_ => w15_.heap.size ≤ k_ ∧ k_ < w16_.heap.size) (fun k_ h_ => by exact B75.out k_ h_); have yF71 := xm (Kd.R_reok rfl h0_ (fun k_ e_ => F71.out.1 k_ e_)); have m0_ := xm (Kd.R_kept F35.out hk2_ (fun k_ h_ h2_ => by have u1_ := B37.out k_ h_; have u2_ : w15_.heap.size ≤ k_ ∧ k_ < w16_.heap.size := h2_; have := Z8.out; have := Z9.out; have := Z10.out; have := Z11.out; have := Z12.out; have := Z13.out; have := Z14.out; have := Z15.out; have := ZJ7.out; omega)); have m1_ := xm (Kd.R_kept F44.out hk2_ (fun k_ h_ h2_ => by have u1_ := B48.out k_ h_; have u2_ : w15_.heap.size ≤ k_ ∧ k_ < w16_.heap.size := h2_; have := Z10.out; have := Z11.out; have := Z12.out; have := Z13.out; have := Z14.out; have := Z15.out; have := ZJ7.out; omega)); have m2_ := xm (Kd.R_kept F54.out hk2_ (fun k_ h_ h2_ => by have u1_ := B58.out k_ h_; have u2_ : w15_.heap.size ≤ k_ ∧ k_ < w16_.heap.size := h2_; have := Z13.out; have := Z14.out; have := Z15.out; have := ZJ7.out; omega)); have m3_ := xm (Kd.S_kept F64.out hk2_ (fun k_ h_ h2_ => by have u1_ := B68.out k_ h_; have u2_ : w15_.heap.size ≤ k_ ∧ k_ < w16_.heap.size := h2_; have := ZJ7.out; omega)); have m4_ := xm (Kd.R_kept F84.out hk2_ (fun k_ h_ h2_ => by have u1_ := B88.out k_ h_; have u2_ : w15_.heap.size ≤ k_ ∧ k_ < w16_.heap.size := h2_; have := Z17.out; have := Z18.out; have := Z19.out; have := Z20.out; have := ZJ7.out; omega)); have m5_ := xm (Kd.R_kept F93.out hk2_ (fun k_ h_ h2_ => by have u1_ := B97.out k_ h_; have u2_ : w15_.heap.size ≤ k_ ∧ k_ < w16_.heap.size := h2_; have := Z17.out; have := Z18.out; have := Z19.out; have := Z20.out; have := Z21.out; have := Z22.out; have := Z23.out; have := ZJ7.out; omega)); have m6_ := xm (Kd.S_kept F102.out hk2_ (fun k_ h_ h2_ => by have u1_ := B106.out k_ h_; have u2_ : w15_.heap.size ≤ k_ ∧ k_ < w16_.heap.size := h2_; have := Z17.out; have := Z18.out; have := Z19.out; have := Z20.out; have := Z21.out; have := Z22.out; have := Z23.out; have := Z24.out; have := Z25.out; have := ZJ7.out; omega)); have m7_ := xm (blk_kept BKg1.out hk2_ (fun h2_ => by have u1_ := GBg1.out; have u2_ : w15_.heap.size ≤ g1 ∧ g1 < w16_.heap.size := h2_; have := Z2.out; have := Z3.out; have := Z4.out; have := Z5.out; have := Z6.out; have := Z7.out; have := Z8.out; have := Z9.out; have := Z10.out; have := Z11.out; have := Z12.out; have := Z13.out; have := Z14.out; have := Z15.out; have := ZJ7.out; omega)); have m8_ := xm (blk_kept BKg3.out hk2_ (fun h2_ => by have u1_ := GBg3.out; have u2_ : w15_.heap.size ≤ g3 ∧ g3 < w16_.heap.size := h2_; have := Z3.out; have := Z4.out; have := Z5.out; have := Z6.out; have := Z7.out; have := Z8.out; have := Z9.out; have := Z10.out; have := Z11.out; have := Z12.out; have := Z13.out; have := Z14.out; have := Z15.out; have := ZJ7.out; omega)); have m9_ := xm (blk_kept BKg39.out hk2_ (fun h2_ => by have u1_ := GBg39.out; have u2_ : w15_.heap.size ≤ g39 ∧ g39 < w16_.heap.size := h2_; have := Z8.out; have := Z9.out; have := Z10.out; have := Z11.out; have := Z12.out; have := Z13.out; have := Z14.out; have := Z15.out; have := ZJ7.out; omega)); have m10_ := xm (blk_kept BKg50.out hk2_ (fun h2_ => by have u1_ := GBg50.out; have u2_ : w15_.heap.size ≤ g50 ∧ g50 < w16_.heap.size := h2_; have := Z11.out; have := Z12.out; have := Z13.out; have := Z14.out; have := Z15.out; have := ZJ7.out; omega)); have m11_ := xm (blk_kept BKg60.out hk2_ (fun h2_ => by have u1_ := GBg60.out; have u2_ : w15_.heap.size ≤ g60 ∧ g60 < w16_.heap.size := h2_; have := Z14.out; have := Z15.out; have := ZJ7.out; omega)); have m12_ := xm (blk_kept BKg77.out hk2_ (fun h2_ => by have u1_ := GBg77.out; have u2_ : w15_.heap.size ≤ g77 ∧ g77 < w16_.heap.size := h2_; have := ZJ7.out; omega)); clear F35 F44 F54 F64 F84 F93 F102 BKg1 BKg3 BKg39 BKg50 BKg60 BKg77; have F35 := m0_; have F44 := m1_; have F54 := m2_; have F64 := m3_; have F84 := m4_; have F93 := m5_; have F102 := m6_; have BKg1 := m7_; have BKg3 := m8_; have BKg39 := m9_; have BKg50 := m10_; have BKg60 := m11_; have BKg77 := m12_; clear m0_ m1_ m2_ m3_ m4_ m5_ m6_ m7_ m8_ m9_ m10_ m11_ m12_; clear F71; have F71 := yF71; clear yF71; clear HB; have HB := xm hb_; clear hb_ hkp_ hk2_ h0_; (try clear LEF71); have LEF71 := xm (Kd.R_reads' F71.out).1; clear hcg1_0 hfg1_0; obtain ⟨hcg1_0, hfg1_0⟩ := laws_FnExactJoinRows.cs1 BKg1.out; clear hcg3_0 hfg3_0; obtain ⟨hcg3_0, hfg3_0⟩ := laws_FnExactJoinRows.cs1 BKg3.out; clear hcg39_0 hfg39_0; obtain ⟨hcg39_0, hfg39_0⟩ := laws_FnExactJoinRows.cs1 BKg39.out; clear hcg50_0 hfg50_0; obtain ⟨hcg50_0, hfg50_0⟩ := laws_FnExactJoinRows.cs1 BKg50.out; clear hcg60_0 hfg60_0; obtain ⟨hcg60_0, hfg60_0⟩ := laws_FnExactJoinRows.cs1 BKg60.out; clear hcg77_0 hfg77_0; obtain ⟨hcg77_0, hfg77_0⟩ := laws_FnExactJoinRows.cs1 BKg77.out)
  | ((with_reducible refine gate_callee (f := 27) rfl ?_); refine goesL_ (some 109) rfl rfl Try.func27 (by kernel_rfl) rfl #[.agg #[.slice A72 t70_0.length c73], .int .i64 1] rfl mB ?_; refine calls_of_args (args' := #[.agg #[.slice A72 t117_1.length c73], .int .i64 1]) (by simp only [LEF71.out]) ?_; refine (laws_heldRow.calls k _ _ t117_1 1 t118_0 _ (Kd.R_reads' F71.out).2.2 (by have z_ := Kd.R_reads' F71.out; have y_ := z_.1; have x_ := z_.2.1; omega) t118A.out).mono ?_; rintro e w33_ ⟨rfl, hb_⟩; refine ⟨_, rfl, ?_⟩; have Z33 := xm (hb_.size : w32_.heap.size ≤ w33_.heap.size); have hk_ := Kept.of_below hb_ (fun _ => False); have m0_ := xm (Kd.R_kept F35.out hk_ (fun _ _ h_ => h_)); have m1_ := xm (Kd.R_kept F44.out hk_ (fun _ _ h_ => h_)); have m2_ := xm (Kd.R_kept F54.out hk_ (fun _ _ h_ => h_)); have m3_ := xm (Kd.S_kept F64.out hk_ (fun _ _ h_ => h_)); have m4_ := xm (Kd.R_kept F71.out hk_ (fun _ _ h_ => h_)); have m5_ := xm (Kd.R_kept F84.out hk_ (fun _ _ h_ => h_)); have m6_ := xm (Kd.R_kept F93.out hk_ (fun _ _ h_ => h_)); have m7_ := xm (Kd.S_kept F102.out hk_ (fun _ _ h_ => h_)); have m8_ := xm (blk_kept BKg1.out hk_ (fun h_ => h_)); have m9_ := xm (blk_kept BKg3.out hk_ (fun h_ => h_)); have m10_ := xm (blk_kept BKg39.out hk_ (fun h_ => h_)); have m11_ := xm (blk_kept BKg50.out hk_ (fun h_ => h_)); have m12_ := xm (blk_kept BKg60.out hk_ (fun h_ => h_)); have m13_ := xm (blk_kept BKg77.out hk_ (fun h_ => h_)); clear F35 F44 F54 F64 F71 F84 F93 F102 BKg1 BKg3 BKg39 BKg50 BKg60 BKg77; have F35 := m0_; have F44 := m1_; have F54 := m2_; have F64 := m3_; have F71 := m4_; have F84 := m5_; have F93 := m6_; have F102 := m7_; have BKg1 := m8_; have BKg3 := m9_; have BKg39 := m10_; have BKg50 := m11_; have BKg60 := m12_; have BKg77 := m13_; clear m0_ m1_ m2_ m3_ m4_ m5_ m6_ m7_ m8_ m9_ m10_ m11_ m12_ m13_; have m0_ := xm (below_step (w := w) HB.out hb_); clear HB; have HB := m0_; clear m0_ hb_ hk_; clear hcg1_0 hfg1_0; obtain ⟨hcg1_0, hfg1_0⟩ := laws_FnExactJoinRows.cs1 BKg1.out; clear hcg3_0 hfg3_0; obtain ⟨hcg3_0, hfg3_0⟩ := laws_FnExactJoinRows.cs1 BKg3.out; clear hcg39_0 hfg39_0; obtain ⟨hcg39_0, hfg39_0⟩ := laws_FnExactJoinRows.cs1 BKg39.out; clear hcg50_0 hfg50_0; obtain ⟨hcg50_0, hfg50_0⟩ := laws_FnExactJoinRows.cs1 BKg50.out; clear hcg60_0 hfg60_0; obtain ⟨hcg60_0, hfg60_0⟩ := laws_FnExactJoinRows.cs1 BKg60.out; clear hcg77_0 hfg77_0; obtain ⟨hcg77_0, hfg77_0⟩ := laws_FnExactJoinRows.cs1 BKg77.out)
  | (go_at_call 23; refine (laws_eqRow.calls k _ _ t70_0 _ _ t32_0 true _ (Kd.R_reads' F71.out).2.2 (Kd.R_reads' F71.out).2.1 (Kd.R_reads' F35.out).2.2 (Kd.R_reads' F35.out).2.1 t114A.out).mono ?_; rintro e w31_ ⟨rfl, hb_⟩; have Z31 := xm (hb_.size : w30_.heap.size ≤ w31_.heap.size); have hk_ := Kept.of_below hb_ (fun _ => False); have m0_ := xm (Kd.R_kept F35.out hk_ (fun _ _ h_ => h_)); have m1_ := xm (Kd.R_kept F44.out hk_ (fun _ _ h_ => h_)); have m2_ := xm (Kd.R_kept F54.out hk_ (fun _ _ h_ => h_)); have m3_ := xm (Kd.S_kept F64.out hk_ (fun _ _ h_ => h_)); have m4_ := xm (Kd.R_kept F71.out hk_ (fun _ _ h_ => h_)); have m5_ := xm (Kd.R_kept F84.out hk_ (fun _ _ h_ => h_)); have m6_ := xm (Kd.R_kept F93.out hk_ (fun _ _ h_ => h_)); have m7_ := xm (Kd.S_kept F102.out hk_ (fun _ _ h_ => h_)); have m8_ := xm (blk_kept BKg1.out hk_ (fun h_ => h_)); have m9_ := xm (blk_kept BKg3.out hk_ (fun h_ => h_)); have m10_ := xm (blk_kept BKg39.out hk_ (fun h_ => h_)); have m11_ := xm (blk_kept BKg50.out hk_ (fun h_ => h_)); have m12_ := xm (blk_kept BKg60.out hk_ (fun h_ => h_)); have m13_ := xm (blk_kept BKg77.out hk_ (fun h_ => h_)); clear F35 F44 F54 F64 F71 F84 F93 F102 BKg1 BKg3 BKg39 BKg50 BKg60 BKg77; have F35 := m0_; have F44 := m1_; have F54 := m2_; have F64 := m3_; have F71 := m4_; have F84 := m5_; have F93 := m6_; have F102 := m7_; have BKg1 := m8_; have BKg3 := m9_; have BKg39 := m10_; have BKg50 := m11_; have BKg60 := m12_; have BKg77 := m13_; clear m0_ m1_ m2_ m3_ m4_ m5_ m6_ m7_ m8_ m9_ m10_ m11_ m12_ m13_; have m0_ := xm (below_step (w := w) HB.out hb_); clear HB; have HB := m0_; clear m0_ hb_ hk_; clear hcg1_0 hfg1_0; obtain ⟨hcg1_0, hfg1_0⟩ := laws_FnExactJoinRows.cs1 BKg1.out; clear hcg3_0 hfg3_0; obtain ⟨hcg3_0, hfg3_0⟩ := laws_FnExactJoinRows.cs1 BKg3.out; clear hcg39_0 hfg39_0; obtain ⟨hcg39_0, hfg39_0⟩ := laws_FnExactJoinRows.cs1 BKg39.out; clear hcg50_0 hfg50_0; obtain ⟨hcg50_0, hfg50_0⟩ := laws_FnExactJoinRows.cs1 BKg50.out; clear hcg60_0 hfg60_0; obtain ⟨hcg60_0, hfg60_0⟩ := laws_FnExactJoinRows.cs1 BKg60.out; clear hcg77_0 hfg77_0; obtain ⟨hcg77_0, hfg77_0⟩ := laws_FnExactJoinRows.cs1 BKg77.out))
 have hk_ := Kept.drew (Kept.refl w33_ (fun _ => False))
 have m0_ := xm (Kd.R_kept F35.out hk_ (fun _ _ h_ => h_))
 have m1_ := xm (Kd.R_kept F44.out hk_ (fun _ _ h_ => h_))
 have m2_ := xm (Kd.R_kept F54.out hk_ (fun _ _ h_ => h_))
 have m3_ := xm (Kd.S_kept F64.out hk_ (fun _ _ h_ => h_))
 have m4_ := xm (Kd.R_kept F71.out hk_ (fun _ _ h_ => h_))
 have m5_ := xm (Kd.R_kept F84.out hk_ (fun _ _ h_ => h_))
 have m6_ := xm (Kd.R_kept F93.out hk_ (fun _ _ h_ => h_))
 have m7_ := xm (Kd.S_kept F102.out hk_ (fun _ _ h_ => h_))
 have m8_ := xm (blk_kept BKg1.out hk_ (fun h_ => h_))
 have m9_ := xm (blk_kept BKg3.out hk_ (fun h_ => h_))
 have m10_ := xm (blk_kept BKg39.out hk_ (fun h_ => h_))
 have m11_ := xm (blk_kept BKg50.out hk_ (fun h_ => h_))
 have m12_ := xm (blk_kept BKg60.out hk_ (fun h_ => h_))
 have m13_ := xm (blk_kept BKg77.out hk_ (fun h_ => h_))
 clear F35 F44 F54 F64 F71 F84 F93 F102 BKg1 BKg3 BKg39 BKg50 BKg60 BKg77
 have F35 := m0_
 have F44 := m1_
 have F54 := m2_
 have F64 := m3_
 have F71 := m4_
 have F84 := m5_
 have F93 := m6_
 have F102 := m7_
 have BKg1 := m8_
 have BKg3 := m9_
 have BKg39 := m10_
 have BKg50 := m11_
 have BKg60 := m12_
 have BKg77 := m13_
 clear m0_ m1_ m2_ m3_ m4_ m5_ m6_ m7_ m8_ m9_ m10_ m11_ m12_ m13_
 have m0_ := xm (xd HB.out)
 clear HB hk_
 have HB := m0_
 clear m0_
 have Z34 : Aside0 (w33_.heap.size ≤ w33_.drew.heap.size) := xm (Nat.le_refl _)
 refine start_ (n := 13) (S := fun w' => w'.cell? ⟨g1, 0, none⟩ = some (.slice A0_0 l0_0.length c0_0) ∧ w'.cell? ⟨g3, 0, none⟩ = some (.slice A1_0 l1_0.length c1_0)) (ds := []) #[Z,Z,Z,Z,Z,Z,Z,Z,Z,Z,Z,Z,Z] (by kernel_rfl) rfl rfl ⟨((xc BKg1.out 0).trans rfl), ((xc BKg3.out 0).trans rfl)⟩ (fun hHeld => ?_)
 generalize w33_.drew = w34_ at F35 F44 F54 F64 F71 F84 F93 F102 BKg1 BKg3 BKg39 BKg50 BKg60 BKg77 Z34 HB hHeld ⊢
 refine tx 0 13 1 rfl rfl (by kernel_rfl) hHeld (by rintro w' ⟨s0, s1⟩; go_simp; with_reducible rfl) ?_
 refine tx 2 13 5 rfl rfl (by kernel_rfl) hHeld (by rintro w' ⟨s0, s1⟩; go_simp; with_reducible rfl) ?_
 refine px 4 13 21 (by kernel_rfl) ?_
 refine join_ (σ := Value × Value × Value × Value × Value × Value × Value × Value) 2 #[Y,Y,Y,Y,Y,Y,Y,Y,Y,Y,Y,Z,Z] (fun s_ => [(117, s_.1), (119, s_.2.1), (121, s_.2.2.1), (122, s_.2.2.2.1), (18, s_.2.2.2.2.1), (115, s_.2.2.2.2.2.1), (123, s_.2.2.2.2.2.2.1), (124, s_.2.2.2.2.2.2.2)]) (fun s_ w' => ∃ (g149 n150 n151 : Nat) (A143 : Option Addr) (c144 : Nat) (P146 : Nat → Prop), s_.2.2.2.1 = .tuple #[.agg #[.slice A143 t142_0.length c144], .bool t142_1] ∧ s_.2.2.2.2.1 = .pointer (some ⟨g149, 0, none⟩) ∧ s_.2.2.2.2.2.1 = .tuple #[.agg #[.slice A143 t142_0.length c144], .bool t142_1] ∧ s_.2.2.2.2.2.2.1 = .agg #[.slice A143 t142_0.length c144] ∧ s_.2.2.2.2.2.2.2 = .bool t142_1 ∧ w'.heap[g149]? = some (.cells #[.slice none 0 0] 26 (0, 0)) ∧ Below w34_.heap.size w34_ w' ∧ (w34_.heap.size ≤ g149 ∧ g149 < w'.heap.size ∧ w34_.heap.size ≤ n150 ∧ n150 ≤ n151 ∧ n151 ≤ w'.heap.size ∧ (g149 < n150 ∨ n151 ≤ g149)) ∧ Kd.R (Kd.int .i64) 3 w' w.heap.size P146 (.slice A143 t142_0.length c144) t142_0 ∧ (∀ k_, P146 k_ → n150 ≤ k_ ∧ k_ < n151) ∧ (∀ k_, P146 k_ → some k_ = (.slice A143 t142_0.length c144 : Value).ownBlock ∧ (True))) ?_ (fun hJ => ?_)
 rotate_left
 ·have HL := xm (Below.refl w34_.heap.size w34_)
  refine two_ (i := 1) (j := 10) (Ni := some 117) (Nj := some 18) #[Y,Y,Y,Z,Y,Z,Z,Z,Z,Z,Z,Z,Z] #[Y,Z,Y,Z,Y,Z,Z,Z,Z,Z,Y,Z,Z] rfl rfl rfl rfl (by kernel_rfl) (by decide) (by decide) (fun K hK => ?_) (fun K hK => ?_)
  ·refine goes_ Try.func20 (by kernel_rfl) rfl #[.agg #[.slice A0_0 l0_0.length c0_0]] (by rfl) rfl rfl mB ?_
   refine (laws_toRow.calls k _ _ l0_0 t121_0 _ (Kd.C_below (Kd.C_below HR0_0.out HB.out) HL.out) HC0_0.out t121A.out).mono ?_
   rintro e wl4_ ⟨v0_, rfl, h0_, hb_⟩
   refine ⟨_, rfl, ?_⟩
   obtain ⟨A122, c123, rfl⟩ := Kd.R_slice h0_
   have F124 := xm h0_
   have ml_ := xm (below_step HL.out hb_)
   clear HL
   have HL := ml_
   clear ml_
   clear h0_
   clear hb_
   refine hK.out _ _ ⟨(pw_cell_below HL.out ((xc BKg1.out 0).trans rfl)), (pw_cell_below HL.out ((xc BKg3.out 0).trans rfl))⟩ (fun hHeld => ?_)
   clear hK K
   refine norm_ (a' := ?_) ?_ ?_
   rotate_left
   ·show Act.put _ (some 117) _ = _
    simp only [Act.put, xi, xj, xk, i64_w, i32_w]
    rfl
   refine two_ (i := 3) (j := 10) (Ni := some 119) (Nj := some 18) #[Y,Y,Y,Y,Y,Z,Z,Z,Z,Z,Z,Z,Z] #[Y,Y,Y,Z,Y,Z,Z,Z,Z,Z,Y,Z,Z] rfl rfl rfl rfl (by kernel_rfl) (by decide) (by decide) (fun K hK => ?_) (fun K hK => ?_)
   ·refine goes_ Try.func20 (by kernel_rfl) rfl #[.agg #[.slice A1_0 l1_0.length c1_0]] (by rfl) rfl rfl mB ?_
    refine (laws_toRow.calls k _ _ l1_0 t128_0 _ (Kd.C_below (Kd.C_below HR1_0.out HB.out) HL.out) HC1_0.out t128A.out).mono ?_
    rintro e wl5_ ⟨v0_, rfl, h0_, hb_⟩
    refine ⟨_, rfl, ?_⟩
    obtain ⟨A129, c130, rfl⟩ := Kd.R_slice h0_
    have F131 := xm h0_
    have ml_ := xm (below_step HL.out hb_)
    clear HL
    have HL := ml_
    clear ml_
    clear h0_
    have mk_ := xm (Kd.R_below F124.out hb_)
    clear F124
    have F124 := mk_
    clear mk_
    clear hb_
    refine hK.out _ _ ⟨(pw_cell_below HL.out ((xc BKg1.out 0).trans rfl)), (pw_cell_below HL.out ((xc BKg3.out 0).trans rfl))⟩ (fun hHeld => ?_)
    clear hK K
    refine norm_ (a' := ?_) ?_ ?_
    rotate_left
    ·show Act.put _ (some 119) _ = _
     simp only [Act.put, xi, xj, xk, i64_w, i32_w]
     rfl
    refine two_ (i := 5) (j := 10) (Ni := some 121) (Nj := some 18) #[Y,Y,Y,Y,Y,Y,Z,Z,Z,Z,Z,Z,Z] #[Y,Y,Y,Y,Y,Z,Z,Z,Z,Z,Y,Z,Z] rfl rfl rfl rfl (by kernel_rfl) (by decide) (by decide) (fun K hK => ?_) (fun K hK => ?_)
    ·refine goes_ Try.func54 (by kernel_rfl) rfl #[.slice A2 l2.length c2] (by rfl) rfl rfl mB ?_
     refine (laws_toIntSS.calls k _ _ l2 t135_0 _ (Kd.C_below (Kd.C_below HR2.out HB.out) HL.out) HC2.out t135A.out).mono ?_
     rintro e wl6_ ⟨v0_, rfl, h0_, hb_⟩
     refine ⟨_, rfl, ?_⟩
     obtain ⟨A136, c137, rfl⟩ := Kd.S_slice h0_
     have F138 := xm h0_
     have ml_ := xm (below_step HL.out hb_)
     clear HL
     have HL := ml_
     clear ml_
     clear h0_
     have mk_ := xm (Kd.R_below F124.out hb_)
     clear F124
     have F124 := mk_
     clear mk_
     have mk_ := xm (Kd.R_below F131.out hb_)
     clear F131
     have F131 := mk_
     clear mk_
     clear hb_
     refine hK.out _ _ ⟨(pw_cell_below HL.out ((xc BKg1.out 0).trans rfl)), (pw_cell_below HL.out ((xc BKg3.out 0).trans rfl))⟩ (fun hHeld => ?_)
     clear hK K
     refine norm_ (a' := ?_) ?_ ?_
     rotate_left
     ·show Act.put _ (some 121) _ = _
      simp only [Act.put, xi, xj, xk, i64_w, i32_w]
      rfl
     refine two_ (i := 6) (j := 10) (Ni := some 122) (Nj := some 18) #[Y,Y,Y,Y,Y,Y,Y,Z,Z,Z,Z,Z,Z] #[Y,Y,Y,Y,Y,Y,Z,Z,Z,Z,Y,Z,Z] rfl rfl rfl rfl (by kernel_rfl) (by decide) (by decide) (fun K hK => ?_) (fun K hK => ?_)
     ·refine goes_ Try.func55 (by kernel_rfl) rfl #[.agg #[.slice A122 t121_0.length c123], .agg #[.slice A129 t128_0.length c130], .slice A136 t135_0.length c137] (by rfl) rfl rfl mB ?_
      refine (impl_JoinRows.calls k _ _ t121_0 _ _ t128_0 _ _ t135_0 t142_0 t142_1 _ (Kd.R_reads' F124.out).2.2 (Kd.R_reads' F124.out).2.1 (Kd.R_reads' F131.out).2.2 (Kd.R_reads' F131.out).2.1 (Kd.S_reads' F138.out).2.2 (Kd.S_reads' F138.out).2.1 t142A.out).mono ?_
      rintro e wl7_ ⟨v0_, rfl, h0_, hb_⟩
      refine ⟨_, rfl, ?_⟩
      obtain ⟨A143, c144, rfl⟩ := Kd.R_slice h0_
      obtain ⟨P146, p1_, p2_, p3_⟩ := hideT (base := w.heap.size) rfl h0_ (Nat.le_trans HB.out.size HL.out.size)
      have F145 := xm p1_
      have B147 := xm p2_
      have T148 := xm p3_
      clear p1_ p2_ p3_
      have HP_ := xm HL.out.size
      have GL_ := xm (Nat.le_refl 0)
      have ml_ := xm (below_step HL.out hb_)
      clear HL
      have HL := ml_
      clear ml_
      clear h0_
      have mk_ := xm (Kd.R_below F124.out hb_)
      clear F124
      have F124 := mk_
      clear mk_
      have mk_ := xm (Kd.R_below F131.out hb_)
      clear F131
      have F131 := mk_
      clear mk_
      have mk_ := xm (Kd.S_below F138.out hb_)
      clear F138
      have F138 := mk_
      clear mk_
      obtain ⟨nlo_, hnlo_⟩ : ∃ q_, q_ = wl6_.heap.size := ⟨_, rfl⟩
      obtain ⟨nhi_, hnhi_⟩ : ∃ q_, q_ = wl7_.heap.size := ⟨_, rfl⟩
      have mB_ : Aside0 (∀ k_, P146 k_ → nlo_ ≤ k_ ∧ k_ < nhi_) := xm (by rw [hnlo_, hnhi_]; exact B147.out)
      clear B147
      have B147 := mB_
      clear mB_
      have ZL : Aside0 (w34_.heap.size ≤ nlo_ ∧ nlo_ ≤ nhi_ ∧ nhi_ ≤ wl7_.heap.size) := xm (by have z1_ := HP_.out; have z2_ := hb_.size; omega)
      clear hnlo_ hnhi_
      clear hb_
      refine hK.out _ _ ⟨(pw_cell_below HL.out ((xc BKg1.out 0).trans rfl)), (pw_cell_below HL.out ((xc BKg3.out 0).trans rfl))⟩ (fun hHeld => ?_)
      clear hK K
      refine norm_ (a' := ?_) ?_ ?_
      rotate_left
      ·show Act.put _ (some 122) _ = _
       simp only [Act.put, xi, xj, xk, i64_w, i32_w]
       rfl
      refine px 7 13 255 (by kernel_rfl) ?_
      refine px 8 13 511 (by kernel_rfl) ?_
      refine px 9 13 1023 (by kernel_rfl) ?_
      refine one_ (i := 10) (N := some 18) #[Y,Y,Y,Y,Y,Y,Y,Y,Y,Y,Y,Z,Z] rfl rfl (by kernel_rfl) (by decide) (fun K hK => ?_)
      refine value_ (v := .pointer (some ⟨wl7_.heap.size, 0, none⟩)) (w1 := wl7_.alloc (.cells #[.slice none 0 0] 26 (0, 0))) (by rfl) rfl zB ?_
      obtain ⟨wl11_, gq_, hgq_, hwq_, hbq_⟩ : ∃ (W_ : World) (g_ : Nat), g_ = wl7_.heap.size ∧ W_ = wl7_.alloc (.cells #[.slice none 0 0] 26 (0, 0)) ∧ True := ⟨_, _, rfl, rfl, trivial⟩
      rw [← hwq_, ← hgq_]
      have hb_ : Below wl7_.heap.size wl7_ wl11_ := by rw [hwq_]; exact xa (Below.refl _ _) _
      have BQ : Aside0 (wl11_.heap[gq_]? = some (.cells #[.slice none 0 0] 26 (0, 0))) := xm (by rw [hwq_, hgq_]; exact blk_new _ _)
      have ZQ : Aside0 (w34_.heap.size ≤ gq_ ∧ gq_ < wl11_.heap.size ∧ w34_.heap.size ≤ nlo_ ∧ nlo_ ≤ nhi_ ∧ nhi_ ≤ wl11_.heap.size ∧ (gq_ < nlo_ ∨ nhi_ ≤ gq_)) := xm (by have z1_ := ZL.out; have z2_ := hb_.size; have z3_ := blk_lt BQ.out; have z4_ := HL.out.size; omega)
      have ml_ := xm (below_step HL.out hb_)
      clear HL
      have HL := ml_
      clear ml_
      have mk_ := xm (Kd.R_below F124.out hb_)
      clear F124
      have F124 := mk_
      clear mk_
      have mk_ := xm (Kd.R_below F131.out hb_)
      clear F131
      have F131 := mk_
      clear mk_
      have mk_ := xm (Kd.S_below F138.out hb_)
      clear F138
      have F138 := mk_
      clear mk_
      have mk_ := xm (Kd.R_below F145.out hb_)
      clear F145
      have F145 := mk_
      clear mk_
      clear hb_ hgq_ hwq_ hbq_
      refine hK.out _ _ ⟨(pw_cell_below HL.out ((xc BKg1.out 0).trans rfl)), (pw_cell_below HL.out ((xc BKg3.out 0).trans rfl))⟩ (fun hHeld => ?_)
      clear hK K
      refine norm_ (a' := ?_) ?_ ?_
      rotate_left
      ·show Act.put _ (some 18) _ = _
       simp only [Act.put, xi, xj, xk, i64_w, i32_w]
       rfl
      exact norm_ pB (hJ (.agg #[.slice A122 t121_0.length c123], .agg #[.slice A129 t128_0.length c130], .slice A136 t135_0.length c137, .tuple #[.agg #[.slice A143 t142_0.length c144], .bool t142_1], .pointer (some ⟨gq_, 0, none⟩), .tuple #[.agg #[.slice A143 t142_0.length c144], .bool t142_1], .agg #[.slice A143 t142_0.length c144], .bool t142_1) _ ⟨gq_, nlo_, nhi_, A143, c144, P146, rfl, rfl, rfl, rfl, rfl, BQ.out, HL.out, ZQ.out, F145.out, B147.out, T148.out⟩)
     ·refine value_ (v := .pointer (some ⟨wl6_.heap.size, 0, none⟩)) (w1 := wl6_.alloc (.cells #[.slice none 0 0] 26 (0, 0))) (by rfl) rfl zB ?_
      obtain ⟨wl7_, gq_, hgq_, hwq_, hbq_⟩ : ∃ (W_ : World) (g_ : Nat), g_ = wl6_.heap.size ∧ W_ = wl6_.alloc (.cells #[.slice none 0 0] 26 (0, 0)) ∧ True := ⟨_, _, rfl, rfl, trivial⟩
      rw [← hwq_, ← hgq_]
      have hb_ : Below wl6_.heap.size wl6_ wl7_ := by rw [hwq_]; exact xa (Below.refl _ _) _
      have BQ : Aside0 (wl7_.heap[gq_]? = some (.cells #[.slice none 0 0] 26 (0, 0))) := xm (by rw [hwq_, hgq_]; exact blk_new _ _)
      have GQ := xm (show w34_.heap.size ≤ gq_ ∧ gq_ < wl7_.heap.size from ⟨by rw [hgq_]; exact HL.out.size, blk_lt BQ.out⟩)
      have ml_ := xm (below_step HL.out hb_)
      clear HL
      have HL := ml_
      clear ml_
      have mk_ := xm (Kd.R_below F124.out hb_)
      clear F124
      have F124 := mk_
      clear mk_
      have mk_ := xm (Kd.R_below F131.out hb_)
      clear F131
      have F131 := mk_
      clear mk_
      have mk_ := xm (Kd.S_below F138.out hb_)
      clear F138
      have F138 := mk_
      clear mk_
      clear hb_ hgq_ hwq_ hbq_
      refine hK.out _ _ ⟨(pw_cell_below HL.out ((xc BKg1.out 0).trans rfl)), (pw_cell_below HL.out ((xc BKg3.out 0).trans rfl))⟩ (fun hHeld => ?_)
      clear hK K
      refine norm_ (a' := ?_) ?_ ?_
      rotate_left
      ·show Act.put _ (some 18) _ = _
       simp only [Act.put, xi, xj, xk, i64_w, i32_w]
       rfl
      refine one_ (i := 6) (N := some 122) #[Y,Y,Y,Y,Y,Y,Y,Z,Z,Z,Y,Z,Z] rfl rfl (by kernel_rfl) (by decide) (fun K hK => ?_)
      refine goes_ Try.func55 (by kernel_rfl) rfl #[.agg #[.slice A122 t121_0.length c123], .agg #[.slice A129 t128_0.length c130], .slice A136 t135_0.length c137] (by rfl) rfl rfl mB ?_
      refine (impl_JoinRows.calls k _ _ t121_0 _ _ t128_0 _ _ t135_0 t142_0 t142_1 _ (Kd.R_reads' F124.out).2.2 (Kd.R_reads' F124.out).2.1 (Kd.R_reads' F131.out).2.2 (Kd.R_reads' F131.out).2.1 (Kd.S_reads' F138.out).2.2 (Kd.S_reads' F138.out).2.1 t142A.out).mono ?_
      rintro e wl8_ ⟨v0_, rfl, h0_, hb_⟩
      refine ⟨_, rfl, ?_⟩
      obtain ⟨A143, c144, rfl⟩ := Kd.R_slice h0_
      obtain ⟨P146, p1_, p2_, p3_⟩ := hideT (base := w.heap.size) rfl h0_ (Nat.le_trans HB.out.size HL.out.size)
      have F145 := xm p1_
      have B147 := xm p2_
      have T148 := xm p3_
      clear p1_ p2_ p3_
      have HP_ := xm HL.out.size
      have GL_ := xm (Nat.le_refl 0)
      have ml_ := xm (below_step HL.out hb_)
      clear HL
      have HL := ml_
      clear ml_
      clear h0_
      have GL_ := xm (blk_lt BQ.out)
      have mq_ := xm (blk_below BQ.out hb_)
      clear BQ
      have BQ := mq_
      clear mq_
      have mk_ := xm (Kd.R_below F124.out hb_)
      clear F124
      have F124 := mk_
      clear mk_
      have mk_ := xm (Kd.R_below F131.out hb_)
      clear F131
      have F131 := mk_
      clear mk_
      have mk_ := xm (Kd.S_below F138.out hb_)
      clear F138
      have F138 := mk_
      clear mk_
      obtain ⟨nlo_, hnlo_⟩ : ∃ q_, q_ = wl7_.heap.size := ⟨_, rfl⟩
      obtain ⟨nhi_, hnhi_⟩ : ∃ q_, q_ = wl8_.heap.size := ⟨_, rfl⟩
      have mB_ : Aside0 (∀ k_, P146 k_ → nlo_ ≤ k_ ∧ k_ < nhi_) := xm (by rw [hnlo_, hnhi_]; exact B147.out)
      clear B147
      have B147 := mB_
      clear mB_
      have ZQ : Aside0 (w34_.heap.size ≤ gq_ ∧ gq_ < wl8_.heap.size ∧ w34_.heap.size ≤ nlo_ ∧ nlo_ ≤ nhi_ ∧ nhi_ ≤ wl8_.heap.size ∧ (gq_ < nlo_ ∨ nhi_ ≤ gq_)) := xm (by have z1_ := GL_.out; have z2_ := hb_.size; have z3_ := GQ.out; have z4_ := blk_lt BQ.out; have z5_ := HP_.out; omega)
      clear hnlo_ hnhi_
      clear hb_
      refine hK.out _ _ ⟨(pw_cell_below HL.out ((xc BKg1.out 0).trans rfl)), (pw_cell_below HL.out ((xc BKg3.out 0).trans rfl))⟩ (fun hHeld => ?_)
      clear hK K
      refine norm_ (a' := ?_) ?_ ?_
      rotate_left
      ·show Act.put _ (some 122) _ = _
       simp only [Act.put, xi, xj, xk, i64_w, i32_w]
       rfl
      refine px 7 13 1279 (by kernel_rfl) ?_
      refine px 8 13 1535 (by kernel_rfl) ?_
      refine px 9 13 2047 (by kernel_rfl) ?_
      exact norm_ pB (hJ (.agg #[.slice A122 t121_0.length c123], .agg #[.slice A129 t128_0.length c130], .slice A136 t135_0.length c137, .tuple #[.agg #[.slice A143 t142_0.length c144], .bool t142_1], .pointer (some ⟨gq_, 0, none⟩), .tuple #[.agg #[.slice A143 t142_0.length c144], .bool t142_1], .agg #[.slice A143 t142_0.length c144], .bool t142_1) _ ⟨gq_, nlo_, nhi_, A143, c144, P146, rfl, rfl, rfl, rfl, rfl, BQ.out, HL.out, ZQ.out, F145.out, B147.out, T148.out⟩)
    ·refine value_ (v := .pointer (some ⟨wl5_.heap.size, 0, none⟩)) (w1 := wl5_.alloc (.cells #[.slice none 0 0] 26 (0, 0))) (by rfl) rfl zB ?_
     obtain ⟨wl6_, gq_, hgq_, hwq_, hbq_⟩ : ∃ (W_ : World) (g_ : Nat), g_ = wl5_.heap.size ∧ W_ = wl5_.alloc (.cells #[.slice none 0 0] 26 (0, 0)) ∧ True := ⟨_, _, rfl, rfl, trivial⟩
     rw [← hwq_, ← hgq_]
     have hb_ : Below wl5_.heap.size wl5_ wl6_ := by rw [hwq_]; exact xa (Below.refl _ _) _
     have BQ : Aside0 (wl6_.heap[gq_]? = some (.cells #[.slice none 0 0] 26 (0, 0))) := xm (by rw [hwq_, hgq_]; exact blk_new _ _)
     have GQ := xm (show w34_.heap.size ≤ gq_ ∧ gq_ < wl6_.heap.size from ⟨by rw [hgq_]; exact HL.out.size, blk_lt BQ.out⟩)
     have ml_ := xm (below_step HL.out hb_)
     clear HL
     have HL := ml_
     clear ml_
     have mk_ := xm (Kd.R_below F124.out hb_)
     clear F124
     have F124 := mk_
     clear mk_
     have mk_ := xm (Kd.R_below F131.out hb_)
     clear F131
     have F131 := mk_
     clear mk_
     clear hb_ hgq_ hwq_ hbq_
     refine hK.out _ _ ⟨(pw_cell_below HL.out ((xc BKg1.out 0).trans rfl)), (pw_cell_below HL.out ((xc BKg3.out 0).trans rfl))⟩ (fun hHeld => ?_)
     clear hK K
     refine norm_ (a' := ?_) ?_ ?_
     rotate_left
     ·show Act.put _ (some 18) _ = _
      simp only [Act.put, xi, xj, xk, i64_w, i32_w]
      rfl
     refine one_ (i := 5) (N := some 121) #[Y,Y,Y,Y,Y,Y,Z,Z,Z,Z,Y,Z,Z] rfl rfl (by kernel_rfl) (by decide) (fun K hK => ?_)
     refine goes_ Try.func54 (by kernel_rfl) rfl #[.slice A2 l2.length c2] (by rfl) rfl rfl mB ?_
     refine (laws_toIntSS.calls k _ _ l2 t135_0 _ (Kd.C_below (Kd.C_below HR2.out HB.out) HL.out) HC2.out t135A.out).mono ?_
     rintro e wl7_ ⟨v0_, rfl, h0_, hb_⟩
     refine ⟨_, rfl, ?_⟩
     obtain ⟨A136, c137, rfl⟩ := Kd.S_slice h0_
     have F138 := xm h0_
     have ml_ := xm (below_step HL.out hb_)
     clear HL
     have HL := ml_
     clear ml_
     clear h0_
     have GL_ := xm (blk_lt BQ.out)
     have mq_ := xm (blk_below BQ.out hb_)
     clear BQ
     have BQ := mq_
     clear mq_
     have mk_ := xm (Kd.R_below F124.out hb_)
     clear F124
     have F124 := mk_
     clear mk_
     have mk_ := xm (Kd.R_below F131.out hb_)
     clear F131
     have F131 := mk_
     clear mk_
     clear hb_
     refine hK.out _ _ ⟨(pw_cell_below HL.out ((xc BKg1.out 0).trans rfl)), (pw_cell_below HL.out ((xc BKg3.out 0).trans rfl))⟩ (fun hHeld => ?_)
     clear hK K
     refine norm_ (a' := ?_) ?_ ?_
     rotate_left
     ·show Act.put _ (some 121) _ = _
      simp only [Act.put, xi, xj, xk, i64_w, i32_w]
      rfl
     refine one_ (i := 6) (N := some 122) #[Y,Y,Y,Y,Y,Y,Y,Z,Z,Z,Y,Z,Z] rfl rfl (by kernel_rfl) (by decide) (fun K hK => ?_)
     refine goes_ Try.func55 (by kernel_rfl) rfl #[.agg #[.slice A122 t121_0.length c123], .agg #[.slice A129 t128_0.length c130], .slice A136 t135_0.length c137] (by rfl) rfl rfl mB ?_
     refine (impl_JoinRows.calls k _ _ t121_0 _ _ t128_0 _ _ t135_0 t142_0 t142_1 _ (Kd.R_reads' F124.out).2.2 (Kd.R_reads' F124.out).2.1 (Kd.R_reads' F131.out).2.2 (Kd.R_reads' F131.out).2.1 (Kd.S_reads' F138.out).2.2 (Kd.S_reads' F138.out).2.1 t142A.out).mono ?_
     rintro e wl8_ ⟨v0_, rfl, h0_, hb_⟩
     refine ⟨_, rfl, ?_⟩
     obtain ⟨A143, c144, rfl⟩ := Kd.R_slice h0_
     obtain ⟨P146, p1_, p2_, p3_⟩ := hideT (base := w.heap.size) rfl h0_ (Nat.le_trans HB.out.size HL.out.size)
     have F145 := xm p1_
     have B147 := xm p2_
     have T148 := xm p3_
     clear p1_ p2_ p3_
     have HP_ := xm HL.out.size
     have GL_ := xm (Nat.le_refl 0)
     have ml_ := xm (below_step HL.out hb_)
     clear HL
     have HL := ml_
     clear ml_
     clear h0_
     have GL_ := xm (blk_lt BQ.out)
     have mq_ := xm (blk_below BQ.out hb_)
     clear BQ
     have BQ := mq_
     clear mq_
     have mk_ := xm (Kd.R_below F124.out hb_)
     clear F124
     have F124 := mk_
     clear mk_
     have mk_ := xm (Kd.R_below F131.out hb_)
     clear F131
     have F131 := mk_
     clear mk_
     have mk_ := xm (Kd.S_below F138.out hb_)
     clear F138
     have F138 := mk_
     clear mk_
     obtain ⟨nlo_, hnlo_⟩ : ∃ q_, q_ = wl7_.heap.size := ⟨_, rfl⟩
     obtain ⟨nhi_, hnhi_⟩ : ∃ q_, q_ = wl8_.heap.size := ⟨_, rfl⟩
     have mB_ : Aside0 (∀ k_, P146 k_ → nlo_ ≤ k_ ∧ k_ < nhi_) := xm (by rw [hnlo_, hnhi_]; exact B147.out)
     clear B147
     have B147 := mB_
     clear mB_
     have ZQ : Aside0 (w34_.heap.size ≤ gq_ ∧ gq_ < wl8_.heap.size ∧ w34_.heap.size ≤ nlo_ ∧ nlo_ ≤ nhi_ ∧ nhi_ ≤ wl8_.heap.size ∧ (gq_ < nlo_ ∨ nhi_ ≤ gq_)) := xm (by have z1_ := GL_.out; have z2_ := hb_.size; have z3_ := GQ.out; have z4_ := blk_lt BQ.out; have z5_ := HP_.out; omega)
     clear hnlo_ hnhi_
     clear hb_
     refine hK.out _ _ ⟨(pw_cell_below HL.out ((xc BKg1.out 0).trans rfl)), (pw_cell_below HL.out ((xc BKg3.out 0).trans rfl))⟩ (fun hHeld => ?_)
     clear hK K
     refine norm_ (a' := ?_) ?_ ?_
     rotate_left
     ·show Act.put _ (some 122) _ = _
      simp only [Act.put, xi, xj, xk, i64_w, i32_w]
      rfl
     refine px 7 13 1279 (by kernel_rfl) ?_
     refine px 8 13 1535 (by kernel_rfl) ?_
     refine px 9 13 2047 (by kernel_rfl) ?_
     exact norm_ pB (hJ (.agg #[.slice A122 t121_0.length c123], .agg #[.slice A129 t128_0.length c130], .slice A136 t135_0.length c137, .tuple #[.agg #[.slice A143 t142_0.length c144], .bool t142_1], .pointer (some ⟨gq_, 0, none⟩), .tuple #[.agg #[.slice A143 t142_0.length c144], .bool t142_1], .agg #[.slice A143 t142_0.length c144], .bool t142_1) _ ⟨gq_, nlo_, nhi_, A143, c144, P146, rfl, rfl, rfl, rfl, rfl, BQ.out, HL.out, ZQ.out, F145.out, B147.out, T148.out⟩)
   ·refine value_ (v := .pointer (some ⟨wl4_.heap.size, 0, none⟩)) (w1 := wl4_.alloc (.cells #[.slice none 0 0] 26 (0, 0))) (by rfl) rfl zB ?_
    obtain ⟨wl5_, gq_, hgq_, hwq_, hbq_⟩ : ∃ (W_ : World) (g_ : Nat), g_ = wl4_.heap.size ∧ W_ = wl4_.alloc (.cells #[.slice none 0 0] 26 (0, 0)) ∧ True := ⟨_, _, rfl, rfl, trivial⟩
    rw [← hwq_, ← hgq_]
    have hb_ : Below wl4_.heap.size wl4_ wl5_ := by rw [hwq_]; exact xa (Below.refl _ _) _
    have BQ : Aside0 (wl5_.heap[gq_]? = some (.cells #[.slice none 0 0] 26 (0, 0))) := xm (by rw [hwq_, hgq_]; exact blk_new _ _)
    have GQ := xm (show w34_.heap.size ≤ gq_ ∧ gq_ < wl5_.heap.size from ⟨by rw [hgq_]; exact HL.out.size, blk_lt BQ.out⟩)
    have ml_ := xm (below_step HL.out hb_)
    clear HL
    have HL := ml_
    clear ml_
    have mk_ := xm (Kd.R_below F124.out hb_)
    clear F124
    have F124 := mk_
    clear mk_
    clear hb_ hgq_ hwq_ hbq_
    refine hK.out _ _ ⟨(pw_cell_below HL.out ((xc BKg1.out 0).trans rfl)), (pw_cell_below HL.out ((xc BKg3.out 0).trans rfl))⟩ (fun hHeld => ?_)
    clear hK K
    refine norm_ (a' := ?_) ?_ ?_
    rotate_left
    ·show Act.put _ (some 18) _ = _
     simp only [Act.put, xi, xj, xk, i64_w, i32_w]
     rfl
    refine one_ (i := 3) (N := some 119) #[Y,Y,Y,Y,Y,Z,Z,Z,Z,Z,Y,Z,Z] rfl rfl (by kernel_rfl) (by decide) (fun K hK => ?_)
    refine goes_ Try.func20 (by kernel_rfl) rfl #[.agg #[.slice A1_0 l1_0.length c1_0]] (by rfl) rfl rfl mB ?_
    refine (laws_toRow.calls k _ _ l1_0 t128_0 _ (Kd.C_below (Kd.C_below HR1_0.out HB.out) HL.out) HC1_0.out t128A.out).mono ?_
    rintro e wl6_ ⟨v0_, rfl, h0_, hb_⟩
    refine ⟨_, rfl, ?_⟩
    obtain ⟨A129, c130, rfl⟩ := Kd.R_slice h0_
    have F131 := xm h0_
    have ml_ := xm (below_step HL.out hb_)
    clear HL
    have HL := ml_
    clear ml_
    clear h0_
    have GL_ := xm (blk_lt BQ.out)
    have mq_ := xm (blk_below BQ.out hb_)
    clear BQ
    have BQ := mq_
    clear mq_
    have mk_ := xm (Kd.R_below F124.out hb_)
    clear F124
    have F124 := mk_
    clear mk_
    clear hb_
    refine hK.out _ _ ⟨(pw_cell_below HL.out ((xc BKg1.out 0).trans rfl)), (pw_cell_below HL.out ((xc BKg3.out 0).trans rfl))⟩ (fun hHeld => ?_)
    clear hK K
    refine norm_ (a' := ?_) ?_ ?_
    rotate_left
    ·show Act.put _ (some 119) _ = _
     simp only [Act.put, xi, xj, xk, i64_w, i32_w]
     rfl
    refine one_ (i := 5) (N := some 121) #[Y,Y,Y,Y,Y,Y,Z,Z,Z,Z,Y,Z,Z] rfl rfl (by kernel_rfl) (by decide) (fun K hK => ?_)
    refine goes_ Try.func54 (by kernel_rfl) rfl #[.slice A2 l2.length c2] (by rfl) rfl rfl mB ?_
    refine (laws_toIntSS.calls k _ _ l2 t135_0 _ (Kd.C_below (Kd.C_below HR2.out HB.out) HL.out) HC2.out t135A.out).mono ?_
    rintro e wl7_ ⟨v0_, rfl, h0_, hb_⟩
    refine ⟨_, rfl, ?_⟩
    obtain ⟨A136, c137, rfl⟩ := Kd.S_slice h0_
    have F138 := xm h0_
    have ml_ := xm (below_step HL.out hb_)
    clear HL
    have HL := ml_
    clear ml_
    clear h0_
    have GL_ := xm (blk_lt BQ.out)
    have mq_ := xm (blk_below BQ.out hb_)
    clear BQ
    have BQ := mq_
    clear mq_
    have mk_ := xm (Kd.R_below F124.out hb_)
    clear F124
    have F124 := mk_
    clear mk_
    have mk_ := xm (Kd.R_below F131.out hb_)
    clear F131
    have F131 := mk_
    clear mk_
    clear hb_
    refine hK.out _ _ ⟨(pw_cell_below HL.out ((xc BKg1.out 0).trans rfl)), (pw_cell_below HL.out ((xc BKg3.out 0).trans rfl))⟩ (fun hHeld => ?_)
    clear hK K
    refine norm_ (a' := ?_) ?_ ?_
    rotate_left
    ·show Act.put _ (some 121) _ = _
     simp only [Act.put, xi, xj, xk, i64_w, i32_w]
     rfl
    refine one_ (i := 6) (N := some 122) #[Y,Y,Y,Y,Y,Y,Y,Z,Z,Z,Y,Z,Z] rfl rfl (by kernel_rfl) (by decide) (fun K hK => ?_)
    refine goes_ Try.func55 (by kernel_rfl) rfl #[.agg #[.slice A122 t121_0.length c123], .agg #[.slice A129 t128_0.length c130], .slice A136 t135_0.length c137] (by rfl) rfl rfl mB ?_
    refine (impl_JoinRows.calls k _ _ t121_0 _ _ t128_0 _ _ t135_0 t142_0 t142_1 _ (Kd.R_reads' F124.out).2.2 (Kd.R_reads' F124.out).2.1 (Kd.R_reads' F131.out).2.2 (Kd.R_reads' F131.out).2.1 (Kd.S_reads' F138.out).2.2 (Kd.S_reads' F138.out).2.1 t142A.out).mono ?_
    rintro e wl8_ ⟨v0_, rfl, h0_, hb_⟩
    refine ⟨_, rfl, ?_⟩
    obtain ⟨A143, c144, rfl⟩ := Kd.R_slice h0_
    obtain ⟨P146, p1_, p2_, p3_⟩ := hideT (base := w.heap.size) rfl h0_ (Nat.le_trans HB.out.size HL.out.size)
    have F145 := xm p1_
    have B147 := xm p2_
    have T148 := xm p3_
    clear p1_ p2_ p3_
    have HP_ := xm HL.out.size
    have GL_ := xm (Nat.le_refl 0)
    have ml_ := xm (below_step HL.out hb_)
    clear HL
    have HL := ml_
    clear ml_
    clear h0_
    have GL_ := xm (blk_lt BQ.out)
    have mq_ := xm (blk_below BQ.out hb_)
    clear BQ
    have BQ := mq_
    clear mq_
    have mk_ := xm (Kd.R_below F124.out hb_)
    clear F124
    have F124 := mk_
    clear mk_
    have mk_ := xm (Kd.R_below F131.out hb_)
    clear F131
    have F131 := mk_
    clear mk_
    have mk_ := xm (Kd.S_below F138.out hb_)
    clear F138
    have F138 := mk_
    clear mk_
    obtain ⟨nlo_, hnlo_⟩ : ∃ q_, q_ = wl7_.heap.size := ⟨_, rfl⟩
    obtain ⟨nhi_, hnhi_⟩ : ∃ q_, q_ = wl8_.heap.size := ⟨_, rfl⟩
    have mB_ : Aside0 (∀ k_, P146 k_ → nlo_ ≤ k_ ∧ k_ < nhi_) := xm (by rw [hnlo_, hnhi_]; exact B147.out)
    clear B147
    have B147 := mB_
    clear mB_
    have ZQ : Aside0 (w34_.heap.size ≤ gq_ ∧ gq_ < wl8_.heap.size ∧ w34_.heap.size ≤ nlo_ ∧ nlo_ ≤ nhi_ ∧ nhi_ ≤ wl8_.heap.size ∧ (gq_ < nlo_ ∨ nhi_ ≤ gq_)) := xm (by have z1_ := GL_.out; have z2_ := hb_.size; have z3_ := GQ.out; have z4_ := blk_lt BQ.out; have z5_ := HP_.out; omega)
    clear hnlo_ hnhi_
    clear hb_
    refine hK.out _ _ ⟨(pw_cell_below HL.out ((xc BKg1.out 0).trans rfl)), (pw_cell_below HL.out ((xc BKg3.out 0).trans rfl))⟩ (fun hHeld => ?_)
    clear hK K
    refine norm_ (a' := ?_) ?_ ?_
    rotate_left
    ·show Act.put _ (some 122) _ = _
     simp only [Act.put, xi, xj, xk, i64_w, i32_w]
     rfl
    refine px 7 13 1279 (by kernel_rfl) ?_
    refine px 8 13 1535 (by kernel_rfl) ?_
    refine px 9 13 2047 (by kernel_rfl) ?_
    exact norm_ pB (hJ (.agg #[.slice A122 t121_0.length c123], .agg #[.slice A129 t128_0.length c130], .slice A136 t135_0.length c137, .tuple #[.agg #[.slice A143 t142_0.length c144], .bool t142_1], .pointer (some ⟨gq_, 0, none⟩), .tuple #[.agg #[.slice A143 t142_0.length c144], .bool t142_1], .agg #[.slice A143 t142_0.length c144], .bool t142_1) _ ⟨gq_, nlo_, nhi_, A143, c144, P146, rfl, rfl, rfl, rfl, rfl, BQ.out, HL.out, ZQ.out, F145.out, B147.out, T148.out⟩)
  ·refine value_ (v := .pointer (some ⟨w34_.heap.size, 0, none⟩)) (w1 := w34_.alloc (.cells #[.slice none 0 0] 26 (0, 0))) (by rfl) rfl zB ?_
   obtain ⟨wl4_, gq_, hgq_, hwq_, hbq_⟩ : ∃ (W_ : World) (g_ : Nat), g_ = w34_.heap.size ∧ W_ = w34_.alloc (.cells #[.slice none 0 0] 26 (0, 0)) ∧ True := ⟨_, _, rfl, rfl, trivial⟩
   rw [← hwq_, ← hgq_]
   have hb_ : Below w34_.heap.size w34_ wl4_ := by rw [hwq_]; exact xa (Below.refl _ _) _
   have BQ : Aside0 (wl4_.heap[gq_]? = some (.cells #[.slice none 0 0] 26 (0, 0))) := xm (by rw [hwq_, hgq_]; exact blk_new _ _)
   have GQ := xm (show w34_.heap.size ≤ gq_ ∧ gq_ < wl4_.heap.size from ⟨by rw [hgq_]; exact HL.out.size, blk_lt BQ.out⟩)
   have ml_ := xm (below_step HL.out hb_)
   clear HL
   have HL := ml_
   clear ml_
   clear hb_ hgq_ hwq_ hbq_
   refine hK.out _ _ ⟨(pw_cell_below HL.out ((xc BKg1.out 0).trans rfl)), (pw_cell_below HL.out ((xc BKg3.out 0).trans rfl))⟩ (fun hHeld => ?_)
   clear hK K
   refine norm_ (a' := ?_) ?_ ?_
   rotate_left
   ·show Act.put _ (some 18) _ = _
    simp only [Act.put, xi, xj, xk, i64_w, i32_w]
    rfl
   refine one_ (i := 1) (N := some 117) #[Y,Y,Y,Z,Y,Z,Z,Z,Z,Z,Y,Z,Z] rfl rfl (by kernel_rfl) (by decide) (fun K hK => ?_)
   refine goes_ Try.func20 (by kernel_rfl) rfl #[.agg #[.slice A0_0 l0_0.length c0_0]] (by rfl) rfl rfl mB ?_
   refine (laws_toRow.calls k _ _ l0_0 t121_0 _ (Kd.C_below (Kd.C_below HR0_0.out HB.out) HL.out) HC0_0.out t121A.out).mono ?_
   rintro e wl5_ ⟨v0_, rfl, h0_, hb_⟩
   refine ⟨_, rfl, ?_⟩
   obtain ⟨A122, c123, rfl⟩ := Kd.R_slice h0_
   have F124 := xm h0_
   have ml_ := xm (below_step HL.out hb_)
   clear HL
   have HL := ml_
   clear ml_
   clear h0_
   have GL_ := xm (blk_lt BQ.out)
   have mq_ := xm (blk_below BQ.out hb_)
   clear BQ
   have BQ := mq_
   clear mq_
   clear hb_
   refine hK.out _ _ ⟨(pw_cell_below HL.out ((xc BKg1.out 0).trans rfl)), (pw_cell_below HL.out ((xc BKg3.out 0).trans rfl))⟩ (fun hHeld => ?_)
   clear hK K
   refine norm_ (a' := ?_) ?_ ?_
   rotate_left
   ·show Act.put _ (some 117) _ = _
    simp only [Act.put, xi, xj, xk, i64_w, i32_w]
    rfl
   refine one_ (i := 3) (N := some 119) #[Y,Y,Y,Y,Y,Z,Z,Z,Z,Z,Y,Z,Z] rfl rfl (by kernel_rfl) (by decide) (fun K hK => ?_)
   refine goes_ Try.func20 (by kernel_rfl) rfl #[.agg #[.slice A1_0 l1_0.length c1_0]] (by rfl) rfl rfl mB ?_
   refine (laws_toRow.calls k _ _ l1_0 t128_0 _ (Kd.C_below (Kd.C_below HR1_0.out HB.out) HL.out) HC1_0.out t128A.out).mono ?_
   rintro e wl6_ ⟨v0_, rfl, h0_, hb_⟩
   refine ⟨_, rfl, ?_⟩
   obtain ⟨A129, c130, rfl⟩ := Kd.R_slice h0_
   have F131 := xm h0_
   have ml_ := xm (below_step HL.out hb_)
   clear HL
   have HL := ml_
   clear ml_
   clear h0_
   have GL_ := xm (blk_lt BQ.out)
   have mq_ := xm (blk_below BQ.out hb_)
   clear BQ
   have BQ := mq_
   clear mq_
   have mk_ := xm (Kd.R_below F124.out hb_)
   clear F124
   have F124 := mk_
   clear mk_
   clear hb_
   refine hK.out _ _ ⟨(pw_cell_below HL.out ((xc BKg1.out 0).trans rfl)), (pw_cell_below HL.out ((xc BKg3.out 0).trans rfl))⟩ (fun hHeld => ?_)
   clear hK K
   refine norm_ (a' := ?_) ?_ ?_
   rotate_left
   ·show Act.put _ (some 119) _ = _
    simp only [Act.put, xi, xj, xk, i64_w, i32_w]
    rfl
   refine one_ (i := 5) (N := some 121) #[Y,Y,Y,Y,Y,Y,Z,Z,Z,Z,Y,Z,Z] rfl rfl (by kernel_rfl) (by decide) (fun K hK => ?_)
   refine goes_ Try.func54 (by kernel_rfl) rfl #[.slice A2 l2.length c2] (by rfl) rfl rfl mB ?_
   refine (laws_toIntSS.calls k _ _ l2 t135_0 _ (Kd.C_below (Kd.C_below HR2.out HB.out) HL.out) HC2.out t135A.out).mono ?_
   rintro e wl7_ ⟨v0_, rfl, h0_, hb_⟩
   refine ⟨_, rfl, ?_⟩
   obtain ⟨A136, c137, rfl⟩ := Kd.S_slice h0_
   have F138 := xm h0_
   have ml_ := xm (below_step HL.out hb_)
   clear HL
   have HL := ml_
   clear ml_
   clear h0_
   have GL_ := xm (blk_lt BQ.out)
   have mq_ := xm (blk_below BQ.out hb_)
   clear BQ
   have BQ := mq_
   clear mq_
   have mk_ := xm (Kd.R_below F124.out hb_)
   clear F124
   have F124 := mk_
   clear mk_
   have mk_ := xm (Kd.R_below F131.out hb_)
   clear F131
   have F131 := mk_
   clear mk_
   clear hb_
   refine hK.out _ _ ⟨(pw_cell_below HL.out ((xc BKg1.out 0).trans rfl)), (pw_cell_below HL.out ((xc BKg3.out 0).trans rfl))⟩ (fun hHeld => ?_)
   clear hK K
   refine norm_ (a' := ?_) ?_ ?_
   rotate_left
   ·show Act.put _ (some 121) _ = _
    simp only [Act.put, xi, xj, xk, i64_w, i32_w]
    rfl
   refine one_ (i := 6) (N := some 122) #[Y,Y,Y,Y,Y,Y,Y,Z,Z,Z,Y,Z,Z] rfl rfl (by kernel_rfl) (by decide) (fun K hK => ?_)
   refine goes_ Try.func55 (by kernel_rfl) rfl #[.agg #[.slice A122 t121_0.length c123], .agg #[.slice A129 t128_0.length c130], .slice A136 t135_0.length c137] (by rfl) rfl rfl mB ?_
   refine (impl_JoinRows.calls k _ _ t121_0 _ _ t128_0 _ _ t135_0 t142_0 t142_1 _ (Kd.R_reads' F124.out).2.2 (Kd.R_reads' F124.out).2.1 (Kd.R_reads' F131.out).2.2 (Kd.R_reads' F131.out).2.1 (Kd.S_reads' F138.out).2.2 (Kd.S_reads' F138.out).2.1 t142A.out).mono ?_
   rintro e wl8_ ⟨v0_, rfl, h0_, hb_⟩
   refine ⟨_, rfl, ?_⟩
   obtain ⟨A143, c144, rfl⟩ := Kd.R_slice h0_
   obtain ⟨P146, p1_, p2_, p3_⟩ := hideT (base := w.heap.size) rfl h0_ (Nat.le_trans HB.out.size HL.out.size)
   have F145 := xm p1_
   have B147 := xm p2_
   have T148 := xm p3_
   clear p1_ p2_ p3_
   have HP_ := xm HL.out.size
   have GL_ := xm (Nat.le_refl 0)
   have ml_ := xm (below_step HL.out hb_)
   clear HL
   have HL := ml_
   clear ml_
   clear h0_
   have GL_ := xm (blk_lt BQ.out)
   have mq_ := xm (blk_below BQ.out hb_)
   clear BQ
   have BQ := mq_
   clear mq_
   have mk_ := xm (Kd.R_below F124.out hb_)
   clear F124
   have F124 := mk_
   clear mk_
   have mk_ := xm (Kd.R_below F131.out hb_)
   clear F131
   have F131 := mk_
   clear mk_
   have mk_ := xm (Kd.S_below F138.out hb_)
   clear F138
   have F138 := mk_
   clear mk_
   obtain ⟨nlo_, hnlo_⟩ : ∃ q_, q_ = wl7_.heap.size := ⟨_, rfl⟩
   obtain ⟨nhi_, hnhi_⟩ : ∃ q_, q_ = wl8_.heap.size := ⟨_, rfl⟩
   have mB_ : Aside0 (∀ k_, P146 k_ → nlo_ ≤ k_ ∧ k_ < nhi_) := xm (by rw [hnlo_, hnhi_]; exact B147.out)
   clear B147
   have B147 := mB_
   clear mB_
   have ZQ : Aside0 (w34_.heap.size ≤ gq_ ∧ gq_ < wl8_.heap.size ∧ w34_.heap.size ≤ nlo_ ∧ nlo_ ≤ nhi_ ∧ nhi_ ≤ wl8_.heap.size ∧ (gq_ < nlo_ ∨ nhi_ ≤ gq_)) := xm (by have z1_ := GL_.out; have z2_ := hb_.size; have z3_ := GQ.out; have z4_ := blk_lt BQ.out; have z5_ := HP_.out; omega)
   clear hnlo_ hnhi_
   clear hb_
   refine hK.out _ _ ⟨(pw_cell_below HL.out ((xc BKg1.out 0).trans rfl)), (pw_cell_below HL.out ((xc BKg3.out 0).trans rfl))⟩ (fun hHeld => ?_)
   clear hK K
   refine norm_ (a' := ?_) ?_ ?_
   rotate_left
   ·show Act.put _ (some 122) _ = _
    simp only [Act.put, xi, xj, xk, i64_w, i32_w]
    rfl
   refine px 7 13 1279 (by kernel_rfl) ?_
   refine px 8 13 1535 (by kernel_rfl) ?_
   refine px 9 13 2047 (by kernel_rfl) ?_
   exact norm_ pB (hJ (.agg #[.slice A122 t121_0.length c123], .agg #[.slice A129 t128_0.length c130], .slice A136 t135_0.length c137, .tuple #[.agg #[.slice A143 t142_0.length c144], .bool t142_1], .pointer (some ⟨gq_, 0, none⟩), .tuple #[.agg #[.slice A143 t142_0.length c144], .bool t142_1], .agg #[.slice A143 t142_0.length c144], .bool t142_1) _ ⟨gq_, nlo_, nhi_, A143, c144, P146, rfl, rfl, rfl, rfl, rfl, BQ.out, HL.out, ZQ.out, F145.out, B147.out, T148.out⟩)
 intro s_ w35_ hF_
 obtain ⟨v0_, v1_, v2_, v3_, v4_, v5_, v6_, v7_⟩ := s_
 (try dsimp only at hF_)
 obtain ⟨g149, n150, n151, A143, c144, P146, e1_, e2_, e3_, e4_, e5_, hbk_, hb_, hz_, hr0_, hp0_, ht0_⟩ := hF_
 subst e1_ e2_ e3_ e4_ e5_
 have ZJ35 := xm hz_
 have Z35 := xm (hb_.size : w34_.heap.size ≤ w35_.heap.size)
 have hk_ := Kept.of_below hb_ (fun _ => False)
 have m0_ := xm (Kd.R_kept F35.out hk_ (fun _ _ h_ => h_))
 have m1_ := xm (Kd.R_kept F44.out hk_ (fun _ _ h_ => h_))
 have m2_ := xm (Kd.R_kept F54.out hk_ (fun _ _ h_ => h_))
 have m3_ := xm (Kd.S_kept F64.out hk_ (fun _ _ h_ => h_))
 have m4_ := xm (Kd.R_kept F71.out hk_ (fun _ _ h_ => h_))
 have m5_ := xm (Kd.R_kept F84.out hk_ (fun _ _ h_ => h_))
 have m6_ := xm (Kd.R_kept F93.out hk_ (fun _ _ h_ => h_))
 have m7_ := xm (Kd.S_kept F102.out hk_ (fun _ _ h_ => h_))
 have m8_ := xm (blk_kept BKg1.out hk_ (fun h_ => h_))
 have m9_ := xm (blk_kept BKg3.out hk_ (fun h_ => h_))
 have m10_ := xm (blk_kept BKg39.out hk_ (fun h_ => h_))
 have m11_ := xm (blk_kept BKg50.out hk_ (fun h_ => h_))
 have m12_ := xm (blk_kept BKg60.out hk_ (fun h_ => h_))
 have m13_ := xm (blk_kept BKg77.out hk_ (fun h_ => h_))
 clear F35 F44 F54 F64 F71 F84 F93 F102 BKg1 BKg3 BKg39 BKg50 BKg60 BKg77
 have F35 := m0_
 have F44 := m1_
 have F54 := m2_
 have F64 := m3_
 have F71 := m4_
 have F84 := m5_
 have F93 := m6_
 have F102 := m7_
 have BKg1 := m8_
 have BKg3 := m9_
 have BKg39 := m10_
 have BKg50 := m11_
 have BKg60 := m12_
 have BKg77 := m13_
 clear m0_ m1_ m2_ m3_ m4_ m5_ m6_ m7_ m8_ m9_ m10_ m11_ m12_ m13_
 have m0_ := xm (below_step (w := w) HB.out hb_)
 clear HB
 have HB := m0_
 clear m0_
 have BKg149 := xm hbk_
 have GBg149 : Aside0 (w34_.heap.size ≤ g149 ∧ g149 < w35_.heap.size) := xm ⟨hz_.1, hz_.2.1⟩
 have F145 := xm hr0_
 have B147 := xm hp0_
 have T148 := xm ht0_
 clear hbk_ hb_ hz_ hk_ hr0_ hp0_ ht0_
 refine norm_ (a' := ?_) ?_ ?_
 rotate_left
 ·simp only [putAll, Act.put, xi, xj, xk]
  rfl
 obtain ⟨hcg149_0, hfg149_0⟩ := laws_FnExactJoinRows.cs1 BKg149.out
 refine one_ (i := 11) (N := none) #[Y,Y,Y,Y,Y,Y,Y,Y,Y,Y,Y,Y,Z] rfl rfl (by kernel_rfl) (by decide) (fun K hK => ?_)
 refine skip_ (by rfl) rfl (w1 := (w35_.setCell ⟨g149, 0, none⟩ (.slice A143 t142_0.length c144))) zB ?_
 obtain ⟨w36_, hw_⟩ : ∃ W_ : World, W_ = (w35_.setCell ⟨g149, 0, none⟩ (.slice A143 t142_0.length c144)) := ⟨_, rfl⟩
 rw [← hw_]
 clear hcg149_0 hfg149_0
 have hk_ : Kept w35_ w36_ (fun k_ => k_ = g149) := (by rw [hw_]; exact kept_box (Kept.refl _ _) _ _)
 have hx_ : w36_.heap[g149]? = some (.cells #[.slice A143 t142_0.length c144] 26 (0, 0)) := (by rw [hw_]; refine blk_put (cs := #[.slice none 0 0]) ?_ 0 _ rfl; exact BKg149.out)
 have Z36 := xm (hk_.1 : w35_.heap.size ≤ w36_.heap.size)
 have ge_ : w.heap.size ≤ g149 := (by have := GBg149.out; have := Z1.out; have := Z2.out; have := Z3.out; have := Z4.out; have := Z5.out; have := Z6.out; have := Z7.out; have := Z8.out; have := Z9.out; have := Z10.out; have := Z11.out; have := Z12.out; have := Z13.out; have := Z14.out; have := Z15.out; have := Z16.out; have := Z17.out; have := Z18.out; have := Z19.out; have := Z20.out; have := Z21.out; have := Z22.out; have := Z23.out; have := Z24.out; have := Z25.out; have := Z26.out; have := Z27.out; have := Z28.out; have := Z29.out; have := Z30.out; have := Z31.out; have := Z32.out; have := Z33.out; have := Z34.out; have := ZJ7.out; have := ZJ35.out; omega)
 have mb_ : Aside0 (Below w.heap.size w w36_) := xm (by rw [hw_]; exact xt (HB.out) ge_)
 have hk2_ := (Kept.mono hk_ (S' := fun k_ => g149 ≤ k_ ∧ k_ < g149 + 1) (fun k_ h_ => by have h_ : k_ = g149 := h_; exact ⟨by omega, by omega⟩))
 have m0_ := xm (Kd.R_kept F35.out hk2_ (fun k_ h_ h2_ => by have u1_ := B37.out k_ h_; have u2_ : g149 ≤ k_ ∧ k_ < g149 + 1 := h2_; have := Z8.out; have := Z9.out; have := Z10.out; have := Z11.out; have := Z12.out; have := Z13.out; have := Z14.out; have := Z15.out; have := Z16.out; have := Z17.out; have := Z18.out; have := Z19.out; have := Z20.out; have := Z21.out; have := Z22.out; have := Z23.out; have := Z24.out; have := Z25.out; have := Z26.out; have := Z27.out; have := Z28.out; have := Z29.out; have := Z30.out; have := Z31.out; have := Z32.out; have := Z33.out; have := Z34.out; have := ZJ7.out; have := ZJ35.out; omega))
 have m1_ := xm (Kd.R_kept F44.out hk2_ (fun k_ h_ h2_ => by have u1_ := B48.out k_ h_; have u2_ : g149 ≤ k_ ∧ k_ < g149 + 1 := h2_; have := Z10.out; have := Z11.out; have := Z12.out; have := Z13.out; have := Z14.out; have := Z15.out; have := Z16.out; have := Z17.out; have := Z18.out; have := Z19.out; have := Z20.out; have := Z21.out; have := Z22.out; have := Z23.out; have := Z24.out; have := Z25.out; have := Z26.out; have := Z27.out; have := Z28.out; have := Z29.out; have := Z30.out; have := Z31.out; have := Z32.out; have := Z33.out; have := Z34.out; have := ZJ7.out; have := ZJ35.out; omega))
 have m2_ := xm (Kd.R_kept F54.out hk2_ (fun k_ h_ h2_ => by have u1_ := B58.out k_ h_; have u2_ : g149 ≤ k_ ∧ k_ < g149 + 1 := h2_; have := Z13.out; have := Z14.out; have := Z15.out; have := Z16.out; have := Z17.out; have := Z18.out; have := Z19.out; have := Z20.out; have := Z21.out; have := Z22.out; have := Z23.out; have := Z24.out; have := Z25.out; have := Z26.out; have := Z27.out; have := Z28.out; have := Z29.out; have := Z30.out; have := Z31.out; have := Z32.out; have := Z33.out; have := Z34.out; have := ZJ7.out; have := ZJ35.out; omega))
 have m3_ := xm (Kd.S_kept F64.out hk2_ (fun k_ h_ h2_ => by have u1_ := B68.out k_ h_; have u2_ : g149 ≤ k_ ∧ k_ < g149 + 1 := h2_; have := Z16.out; have := Z17.out; have := Z18.out; have := Z19.out; have := Z20.out; have := Z21.out; have := Z22.out; have := Z23.out; have := Z24.out; have := Z25.out; have := Z26.out; have := Z27.out; have := Z28.out; have := Z29.out; have := Z30.out; have := Z31.out; have := Z32.out; have := Z33.out; have := Z34.out; have := ZJ7.out; have := ZJ35.out; omega))
 have m4_ := xm (Kd.R_kept F71.out hk2_ (fun k_ h_ h2_ => by have u1_ := B75.out k_ h_; have u2_ : g149 ≤ k_ ∧ k_ < g149 + 1 := h2_; have := Z17.out; have := Z18.out; have := Z19.out; have := Z20.out; have := Z21.out; have := Z22.out; have := Z23.out; have := Z24.out; have := Z25.out; have := Z26.out; have := Z27.out; have := Z28.out; have := Z29.out; have := Z30.out; have := Z31.out; have := Z32.out; have := Z33.out; have := Z34.out; have := ZJ7.out; have := ZJ35.out; omega))
 have m5_ := xm (Kd.R_kept F84.out hk2_ (fun k_ h_ h2_ => by have u1_ := B88.out k_ h_; have u2_ : g149 ≤ k_ ∧ k_ < g149 + 1 := h2_; have := Z22.out; have := Z23.out; have := Z24.out; have := Z25.out; have := Z26.out; have := Z27.out; have := Z28.out; have := Z29.out; have := Z30.out; have := Z31.out; have := Z32.out; have := Z33.out; have := Z34.out; have := ZJ7.out; have := ZJ35.out; omega))
 have m6_ := xm (Kd.R_kept F93.out hk2_ (fun k_ h_ h2_ => by have u1_ := B97.out k_ h_; have u2_ : g149 ≤ k_ ∧ k_ < g149 + 1 := h2_; have := Z25.out; have := Z26.out; have := Z27.out; have := Z28.out; have := Z29.out; have := Z30.out; have := Z31.out; have := Z32.out; have := Z33.out; have := Z34.out; have := ZJ7.out; have := ZJ35.out; omega))
 have m7_ := xm (Kd.S_kept F102.out hk2_ (fun k_ h_ h2_ => by have u1_ := B106.out k_ h_; have u2_ : g149 ≤ k_ ∧ k_ < g149 + 1 := h2_; have := Z27.out; have := Z28.out; have := Z29.out; have := Z30.out; have := Z31.out; have := Z32.out; have := Z33.out; have := Z34.out; have := ZJ7.out; have := ZJ35.out; omega))
 have m8_ := xm (Kd.R_kept F145.out hk2_ (fun k_ h_ h2_ => by have u1_ := B147.out k_ h_; have u2_ : g149 ≤ k_ ∧ k_ < g149 + 1 := h2_; have := ZJ7.out; have := ZJ35.out; omega))
 have m9_ := xm (blk_kept BKg1.out hk2_ (fun h2_ => by have u1_ := GBg1.out; have u2_ : g149 ≤ g1 ∧ g1 < g149 + 1 := h2_; have := Z2.out; have := Z3.out; have := Z4.out; have := Z5.out; have := Z6.out; have := Z7.out; have := Z8.out; have := Z9.out; have := Z10.out; have := Z11.out; have := Z12.out; have := Z13.out; have := Z14.out; have := Z15.out; have := Z16.out; have := Z17.out; have := Z18.out; have := Z19.out; have := Z20.out; have := Z21.out; have := Z22.out; have := Z23.out; have := Z24.out; have := Z25.out; have := Z26.out; have := Z27.out; have := Z28.out; have := Z29.out; have := Z30.out; have := Z31.out; have := Z32.out; have := Z33.out; have := Z34.out; have := ZJ7.out; have := ZJ35.out; omega))
 have m10_ := xm (blk_kept BKg3.out hk2_ (fun h2_ => by have u1_ := GBg3.out; have u2_ : g149 ≤ g3 ∧ g3 < g149 + 1 := h2_; have := Z3.out; have := Z4.out; have := Z5.out; have := Z6.out; have := Z7.out; have := Z8.out; have := Z9.out; have := Z10.out; have := Z11.out; have := Z12.out; have := Z13.out; have := Z14.out; have := Z15.out; have := Z16.out; have := Z17.out; have := Z18.out; have := Z19.out; have := Z20.out; have := Z21.out; have := Z22.out; have := Z23.out; have := Z24.out; have := Z25.out; have := Z26.out; have := Z27.out; have := Z28.out; have := Z29.out; have := Z30.out; have := Z31.out; have := Z32.out; have := Z33.out; have := Z34.out; have := ZJ7.out; have := ZJ35.out; omega))
 have m11_ := xm (blk_kept BKg39.out hk2_ (fun h2_ => by have u1_ := GBg39.out; have u2_ : g149 ≤ g39 ∧ g39 < g149 + 1 := h2_; have := Z8.out; have := Z9.out; have := Z10.out; have := Z11.out; have := Z12.out; have := Z13.out; have := Z14.out; have := Z15.out; have := Z16.out; have := Z17.out; have := Z18.out; have := Z19.out; have := Z20.out; have := Z21.out; have := Z22.out; have := Z23.out; have := Z24.out; have := Z25.out; have := Z26.out; have := Z27.out; have := Z28.out; have := Z29.out; have := Z30.out; have := Z31.out; have := Z32.out; have := Z33.out; have := Z34.out; have := ZJ7.out; have := ZJ35.out; omega))
 have m12_ := xm (blk_kept BKg50.out hk2_ (fun h2_ => by have u1_ := GBg50.out; have u2_ : g149 ≤ g50 ∧ g50 < g149 + 1 := h2_; have := Z11.out; have := Z12.out; have := Z13.out; have := Z14.out; have := Z15.out; have := Z16.out; have := Z17.out; have := Z18.out; have := Z19.out; have := Z20.out; have := Z21.out; have := Z22.out; have := Z23.out; have := Z24.out; have := Z25.out; have := Z26.out; have := Z27.out; have := Z28.out; have := Z29.out; have := Z30.out; have := Z31.out; have := Z32.out; have := Z33.out; have := Z34.out; have := ZJ7.out; have := ZJ35.out; omega))
 have m13_ := xm (blk_kept BKg60.out hk2_ (fun h2_ => by have u1_ := GBg60.out; have u2_ : g149 ≤ g60 ∧ g60 < g149 + 1 := h2_; have := Z14.out; have := Z15.out; have := Z16.out; have := Z17.out; have := Z18.out; have := Z19.out; have := Z20.out; have := Z21.out; have := Z22.out; have := Z23.out; have := Z24.out; have := Z25.out; have := Z26.out; have := Z27.out; have := Z28.out; have := Z29.out; have := Z30.out; have := Z31.out; have := Z32.out; have := Z33.out; have := Z34.out; have := ZJ7.out; have := ZJ35.out; omega))
 have m14_ := xm (blk_kept BKg77.out hk2_ (fun h2_ => by have u1_ := GBg77.out; have u2_ : g149 ≤ g77 ∧ g77 < g149 + 1 := h2_; have := Z18.out; have := Z19.out; have := Z20.out; have := Z21.out; have := Z22.out; have := Z23.out; have := Z24.out; have := Z25.out; have := Z26.out; have := Z27.out; have := Z28.out; have := Z29.out; have := Z30.out; have := Z31.out; have := Z32.out; have := Z33.out; have := Z34.out; have := ZJ7.out; have := ZJ35.out; omega))
 clear F35 F44 F54 F64 F71 F84 F93 F102 F145 BKg1 BKg3 BKg39 BKg50 BKg60 BKg77
 have F35 := m0_
 have F44 := m1_
 have F54 := m2_
 have F64 := m3_
 have F71 := m4_
 have F84 := m5_
 have F93 := m6_
 have F102 := m7_
 have F145 := m8_
 have BKg1 := m9_
 have BKg3 := m10_
 have BKg39 := m11_
 have BKg50 := m12_
 have BKg60 := m13_
 have BKg77 := m14_
 clear m0_ m1_ m2_ m3_ m4_ m5_ m6_ m7_ m8_ m9_ m10_ m11_ m12_ m13_ m14_
 clear HB BKg149
 have HB := mb_
 have BKg149 := xm hx_
 clear mb_ hx_ hk_ hk2_ hw_ ge_
 refine hK.out _ _ ⟨((xc BKg1.out 0).trans rfl), ((xc BKg3.out 0).trans rfl)⟩ (fun hHeld => ?_)
 clear hK K
 refine px 12 13 8191 (by kernel_rfl) ?_
 refine done_ (by kernel_rfl) ?_
 (try clear hHeld)
 obtain ⟨hcg1_0, hfg1_0⟩ := laws_FnExactJoinRows.cs1 BKg1.out
 obtain ⟨hcg3_0, hfg3_0⟩ := laws_FnExactJoinRows.cs1 BKg3.out
 obtain ⟨hcg39_0, hfg39_0⟩ := laws_FnExactJoinRows.cs1 BKg39.out
 obtain ⟨hcg50_0, hfg50_0⟩ := laws_FnExactJoinRows.cs1 BKg50.out
 obtain ⟨hcg60_0, hfg60_0⟩ := laws_FnExactJoinRows.cs1 BKg60.out
 obtain ⟨hcg77_0, hfg77_0⟩ := laws_FnExactJoinRows.cs1 BKg77.out
 obtain ⟨hcg149_0, hfg149_0⟩ := laws_FnExactJoinRows.cs1 BKg149.out
 go_wp2_with (first
  | ((with_reducible refine gate_callee (f := 23) rfl ?_); refine goesL_ (some 127) rfl rfl Try.func23 (by kernel_rfl) rfl #[.agg #[.slice A143 t142_0.length c144], .agg #[.slice A33 t32_0.length c34]] rfl mB ?_; refine (laws_eqRow.calls k _ _ t142_0 _ _ t32_0 true _ (Kd.R_reads' F145.out).2.2 (Kd.R_reads' F145.out).2.1 (Kd.R_reads' F35.out).2.2 (Kd.R_reads' F35.out).2.1 t153A.out).mono ?_; rintro e w37_ ⟨rfl, hb_⟩; refine ⟨_, rfl, ?_⟩; have Z37 := xm (hb_.size : w36_.heap.size ≤ w37_.heap.size); have hk_ := Kept.of_below hb_ (fun _ => False); have m0_ := xm (Kd.R_kept F35.out hk_ (fun _ _ h_ => h_)); have m1_ := xm (Kd.R_kept F44.out hk_ (fun _ _ h_ => h_)); have m2_ := xm (Kd.R_kept F54.out hk_ (fun _ _ h_ => h_)); have m3_ := xm (Kd.S_kept F64.out hk_ (fun _ _ h_ => h_)); have m4_ := xm (Kd.R_kept F71.out hk_ (fun _ _ h_ => h_)); have m5_ := xm (Kd.R_kept F84.out hk_ (fun _ _ h_ => h_)); have m6_ := xm (Kd.R_kept F93.out hk_ (fun _ _ h_ => h_)); have m7_ := xm (Kd.S_kept F102.out hk_ (fun _ _ h_ => h_)); have m8_ := xm (Kd.R_kept F145.out hk_ (fun _ _ h_ => h_)); have m9_ := xm (blk_kept BKg1.out hk_ (fun h_ => h_)); have m10_ := xm (blk_kept BKg3.out hk_ (fun h_ => h_)); have m11_ := xm (blk_kept BKg39.out hk_ (fun h_ => h_)); have m12_ := xm (blk_kept BKg50.out hk_ (fun h_ => h_)); have m13_ := xm (blk_kept BKg60.out hk_ (fun h_ => h_)); have m14_ := xm (blk_kept BKg77.out hk_ (fun h_ => h_)); have m15_ := xm (blk_kept BKg149.out hk_ (fun h_ => h_)); clear F35 F44 F54 F64 F71 F84 F93 F102 F145 BKg1 BKg3 BKg39 BKg50 BKg60 BKg77 BKg149; have F35 := m0_; have F44 := m1_; have F54 := m2_; have F64 := m3_; have F71 := m4_; have F84 := m5_; have F93 := m6_; have F102 := m7_; have F145 := m8_; have BKg1 := m9_; have BKg3 := m10_; have BKg39 := m11_; have BKg50 := m12_; have BKg60 := m13_; have BKg77 := m14_; have BKg149 := m15_; clear m0_ m1_ m2_ m3_ m4_ m5_ m6_ m7_ m8_ m9_ m10_ m11_ m12_ m13_ m14_ m15_; have m0_ := xm (below_step (w := w) HB.out hb_); clear HB; have HB := m0_; clear m0_ hb_ hk_; clear hcg1_0 hfg1_0; obtain ⟨hcg1_0, hfg1_0⟩ := laws_FnExactJoinRows.cs1 BKg1.out; clear hcg3_0 hfg3_0; obtain ⟨hcg3_0, hfg3_0⟩ := laws_FnExactJoinRows.cs1 BKg3.out; clear hcg39_0 hfg39_0; obtain ⟨hcg39_0, hfg39_0⟩ := laws_FnExactJoinRows.cs1 BKg39.out; clear hcg50_0 hfg50_0; obtain ⟨hcg50_0, hfg50_0⟩ := laws_FnExactJoinRows.cs1 BKg50.out; clear hcg60_0 hfg60_0; obtain ⟨hcg60_0, hfg60_0⟩ := laws_FnExactJoinRows.cs1 BKg60.out; clear hcg77_0 hfg77_0; obtain ⟨hcg77_0, hfg77_0⟩ := laws_FnExactJoinRows.cs1 BKg77.out; clear hcg149_0 hfg149_0; obtain ⟨hcg149_0, hfg149_0⟩ := laws_FnExactJoinRows.cs1 BKg149.out)
  | ((with_reducible refine gate_callee (f := 27) rfl ?_); refine goesL_ (some 136) rfl rfl Try.func27 (by kernel_rfl) rfl #[.agg #[.slice A72 t70_0.length c73], .int .i64 1] rfl mB ?_; refine calls_of_args (args' := #[.agg #[.slice A72 t117_1.length c73], .int .i64 1]) (by simp only [LEF71.out]) ?_; refine (laws_heldRow.calls k _ _ t117_1 1 t156_0 _ (Kd.R_reads' F71.out).2.2 (by have z_ := Kd.R_reads' F71.out; have y_ := z_.1; have x_ := z_.2.1; omega) t156A.out).mono ?_; rintro e w38_ ⟨rfl, hb_⟩; refine ⟨_, rfl, ?_⟩; have Z38 := xm (hb_.size : w37_.heap.size ≤ w38_.heap.size); have hk_ := Kept.of_below hb_ (fun _ => False); have m0_ := xm (Kd.R_kept F35.out hk_ (fun _ _ h_ => h_)); have m1_ := xm (Kd.R_kept F44.out hk_ (fun _ _ h_ => h_)); have m2_ := xm (Kd.R_kept F54.out hk_ (fun _ _ h_ => h_)); have m3_ := xm (Kd.S_kept F64.out hk_ (fun _ _ h_ => h_)); have m4_ := xm (Kd.R_kept F71.out hk_ (fun _ _ h_ => h_)); have m5_ := xm (Kd.R_kept F84.out hk_ (fun _ _ h_ => h_)); have m6_ := xm (Kd.R_kept F93.out hk_ (fun _ _ h_ => h_)); have m7_ := xm (Kd.S_kept F102.out hk_ (fun _ _ h_ => h_)); have m8_ := xm (Kd.R_kept F145.out hk_ (fun _ _ h_ => h_)); have m9_ := xm (blk_kept BKg1.out hk_ (fun h_ => h_)); have m10_ := xm (blk_kept BKg3.out hk_ (fun h_ => h_)); have m11_ := xm (blk_kept BKg39.out hk_ (fun h_ => h_)); have m12_ := xm (blk_kept BKg50.out hk_ (fun h_ => h_)); have m13_ := xm (blk_kept BKg60.out hk_ (fun h_ => h_)); have m14_ := xm (blk_kept BKg77.out hk_ (fun h_ => h_)); have m15_ := xm (blk_kept BKg149.out hk_ (fun h_ => h_)); clear F35 F44 F54 F64 F71 F84 F93 F102 F145 BKg1 BKg3 BKg39 BKg50 BKg60 BKg77 BKg149; have F35 := m0_; have F44 := m1_; have F54 := m2_; have F64 := m3_; have F71 := m4_; have F84 := m5_; have F93 := m6_; have F102 := m7_; have F145 := m8_; have BKg1 := m9_; have BKg3 := m10_; have BKg39 := m11_; have BKg50 := m12_; have BKg60 := m13_; have BKg77 := m14_; have BKg149 := m15_; clear m0_ m1_ m2_ m3_ m4_ m5_ m6_ m7_ m8_ m9_ m10_ m11_ m12_ m13_ m14_ m15_; have m0_ := xm (below_step (w := w) HB.out hb_); clear HB; have HB := m0_; clear m0_ hb_ hk_; clear hcg1_0 hfg1_0; obtain ⟨hcg1_0, hfg1_0⟩ := laws_FnExactJoinRows.cs1 BKg1.out; clear hcg3_0 hfg3_0; obtain ⟨hcg3_0, hfg3_0⟩ := laws_FnExactJoinRows.cs1 BKg3.out; clear hcg39_0 hfg39_0; obtain ⟨hcg39_0, hfg39_0⟩ := laws_FnExactJoinRows.cs1 BKg39.out; clear hcg50_0 hfg50_0; obtain ⟨hcg50_0, hfg50_0⟩ := laws_FnExactJoinRows.cs1 BKg50.out; clear hcg60_0 hfg60_0; obtain ⟨hcg60_0, hfg60_0⟩ := laws_FnExactJoinRows.cs1 BKg60.out; clear hcg77_0 hfg77_0; obtain ⟨hcg77_0, hfg77_0⟩ := laws_FnExactJoinRows.cs1 BKg77.out; clear hcg149_0 hfg149_0; obtain ⟨hcg149_0, hfg149_0⟩ := laws_FnExactJoinRows.cs1 BKg149.out))
 go_wp2
 go_ret
 exact ⟨by first | rfl | (simp [errW_none, errW_some] <;> rfl) | (simp [*, errW_none, errW_some] <;> rfl), HB.out⟩

/-- THE ONE PURE STATEMENT of laws_FnExactJoinRows. -/
def laws_FnExactJoinRows.Pure : Prop := ∀ x0 : S24, wf24 x0 → ∀ x1 : S24, wf24 x1 → ∀ x2 : List (List Int), (x2.length ≤ 9223372036854775807 ∧ ∀ x0_ ∈ x2, (x0_.length ≤ 9223372036854775807 ∧ ∀ x1_ ∈ x0_, (-9223372036854775808 ≤ x1_ ∧ x1_ ≤ 9223372036854775807))) → ∃ k, laws_FnExactJoinRows.f k x0.f0 x1.f0 x2 = some true

end Go.Proofs.Ytcbikaoackbbjaa.G
