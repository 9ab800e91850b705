/- Written by a program of this claim's own, out of the translation: functions of the program as plain functions, and that the calls answer as these. No conditions. -/
import Derived.Test.YtpbpglbldgpckaaG0
import Derived.Test.YtpbpglbldgpckaaG18
import Derived.Test.YtpbpglbldgpckaaG19
import Derived.Test.YtpbpglbldgpckaaG21
import Derived.Test.YtpbpglbldgpckaaG22
import Derived.Test.YtpbpglbldgpckaaG37
import Derived.Test.YtpbpglbldgpckaaG39
import Derived.Test.YtpbpglbldgpckaaG55
namespace Go.Proofs.Ytpbpglbldgpckaa.G
open Go.RowKit Go.Proofs.Ytpbpglbldgpckaa.X Go.Proofs.YtpbpglbldgpckaaW.PrintWords Go.Proofs.YtpbpglbldgpckaaW.PrintLast Go.Proofs.YtpbpglbldgpckaaW.PrintMore
attribute [local go_sem] max2_int min2_int max_two min_two max_three min_three max_four min_four   -- for this text's walks alone
set_option linter.unusedVariables false
set_option linter.unusedSimpArgs false

/-! ### laws_FnExactOutOf: function 11 -/
def laws_FnExactOutOf.f (k : Nat) (l0_0 : List Int) (a0_1 : Int) (l0_2 : List Int) (l0_3 : List (S176)) (l0_4 : List Int) (a0_5 : Int) (a0_6 : Int) : Option (Bool) := (laws_szSink.f k l0_0 a0_1 l0_2 l0_3 l0_4 a0_5 a0_6 1048576).bind fun t3b => (if t3b < 0 then (some true) else ((laws_toSink.f k l0_0 a0_1 l0_2 l0_3 l0_4 a0_5 a0_6).bind fun t5b => ((spec_OutOf.f k t5b.1 t5b.2.1 t5b.2.2.1 t5b.2.2.2.1 t5b.2.2.2.2.1 t5b.2.2.2.2.2.1 t5b.2.2.2.2.2.2).bind fun t30b => ((laws_toSink.f k l0_0 a0_1 l0_2 l0_3 l0_4 a0_5 a0_6).bind fun t37b => ((impl_OutOf.f k t37b.1 t37b.2.1 t37b.2.2.1 t37b.2.2.2.1 t37b.2.2.2.2.1 t37b.2.2.2.2.2.1 t37b.2.2.2.2.2.2).bind fun t65b => ((laws_eqIntS.f k t65b.1 t30b.1).bind fun t72b => (if t72b = true then (if t65b.2.1 = t30b.2.1 then (if (t65b.2.2 != t30b.2.2) = true then (some false) else ((laws_toSink.f k l0_0 a0_1 l0_2 l0_3 l0_4 a0_5 a0_6).bind fun t76b => ((laws_eqSink.f k t37b.1 t37b.2.1 t37b.2.2.1 t37b.2.2.2.1 t37b.2.2.2.2.1 t37b.2.2.2.2.2.1 t37b.2.2.2.2.2.2 t76b.1 t76b.2.1 t76b.2.2.1 t76b.2.2.2.1 t76b.2.2.2.2.1 t76b.2.2.2.2.2.1 t76b.2.2.2.2.2.2).bind fun t101b => (if t101b = true then ((laws_markSink.f k t37b.1 t37b.2.1 t37b.2.2.1 t37b.2.2.2.1 t37b.2.2.2.2.1 t37b.2.2.2.2.2.1 t37b.2.2.2.2.2.2 1).bind fun t103b => (if t103b.1 < 0 then (some false) else ((laws_eqIntS.f k t65b.1 t30b.1).bind fun t105b => (if t105b = true then (if t65b.2.1 = t30b.2.1 then (if (t65b.2.2 != t30b.2.2) = true then (some false) else ((laws_markIntS.f k t65b.1 1).bind fun t109b => ((laws_heldIntS.f k t109b.2 1).bind fun t110b => (if t110b < 0 then (some false) else (if t110b = t109b.1 then ((laws_toSink.f k l0_0 a0_1 l0_2 l0_3 l0_4 a0_5 a0_6).bind fun t113b => ((impl_OutOf.f k t113b.1 t113b.2.1 t113b.2.2.1 t113b.2.2.2.1 t113b.2.2.2.2.1 t113b.2.2.2.2.2.1 t113b.2.2.2.2.2.2).bind fun t138b => ((laws_eqIntS.f k t138b.1 t30b.1).bind fun t145b => (if t145b = true then (if t138b.2.1 = t30b.2.1 then (if (t138b.2.2 != t30b.2.2) = true then (some false) else ((laws_heldIntS.f k t109b.2 1).bind fun t149b => (if t149b < 0 then (some false) else (if t149b = t109b.1 then ((some true)) else (some false))))) else (some false)) else (some false))))) else (some false)))))) else (some false)) else (some false))))) else (some false))))) else (some false)) else (some false))))))))
theorem laws_FnExactOutOf.mono : ∀ a0_ a1_ a2_ a3_ a4_ a5_ a6_ k, LeO (laws_FnExactOutOf.f k a0_ a1_ a2_ a3_ a4_ a5_ a6_) (laws_FnExactOutOf.f (k + 1) a0_ a1_ a2_ a3_ a4_ a5_ a6_) := by
 intro a0_ a1_ a2_ a3_ a4_ a5_ a6_ k
 unfold laws_FnExactOutOf.f
 repeat' first
  | (with_reducible exact impl_OutOf.mono _ _ _ _ _ _ _ _)
  | (with_reducible exact laws_eqIntS.mono _ _ _)
  | (with_reducible exact laws_eqSink.mono _ _ _ _ _ _ _ _ _ _ _ _ _ _ _)
  | (with_reducible exact laws_heldIntS.mono _ _ _)
  | (with_reducible exact laws_markIntS.mono _ _ _)
  | (with_reducible exact laws_markSink.mono _ _ _ _ _ _ _ _ _)
  | (with_reducible exact laws_szSink.mono _ _ _ _ _ _ _ _ _)
  | (with_reducible exact laws_toSink.mono _ _ _ _ _ _ _ _)
  | (with_reducible exact spec_OutOf.mono _ _ _ _ _ _ _ _)
  | (with_reducible exact LeO.refl _)
  | (with_reducible exact LeO.none _)
  | (with_reducible refine LeO.ite ?_ ?_)
  | (with_reducible refine LeO.bind ?_ (fun _ => ?_))
  | exact impl_OutOf.mono _ _ _ _ _ _ _ _
  | exact laws_eqIntS.mono _ _ _
  | exact laws_eqSink.mono _ _ _ _ _ _ _ _ _ _ _ _ _ _ _
  | exact laws_heldIntS.mono _ _ _
  | exact laws_markIntS.mono _ _ _
  | exact laws_markSink.mono _ _ _ _ _ _ _ _ _
  | exact laws_szSink.mono _ _ _ _ _ _ _ _ _
  | exact laws_toSink.mono _ _ _ _ _ _ _ _
  | exact spec_OutOf.mono _ _ _ _ _ _ _ _
theorem laws_FnExactOutOf.cs7 {w : World} {g t : Nat} {a0 a1 a2 a3 a4 a5 a6 : Value} (h : w.heap[g]? = some (.cells #[a0, a1, a2, a3, a4, a5, a6] t (0, 0))) : w.cell? ⟨g, 0, none⟩ = some a0 ∧ w.frozen? ⟨g, 0, none⟩ = false ∧ w.cell? ⟨g, 1, none⟩ = some a1 ∧ w.frozen? ⟨g, 1, none⟩ = false ∧ w.cell? ⟨g, 2, none⟩ = some a2 ∧ w.frozen? ⟨g, 2, none⟩ = false ∧ w.cell? ⟨g, 3, none⟩ = some a3 ∧ w.frozen? ⟨g, 3, none⟩ = false ∧ w.cell? ⟨g, 4, none⟩ = some a4 ∧ w.frozen? ⟨g, 4, none⟩ = false ∧ w.cell? ⟨g, 5, none⟩ = some a5 ∧ w.frozen? ⟨g, 5, none⟩ = false ∧ w.cell? ⟨g, 6, none⟩ = some a6 ∧ w.frozen? ⟨g, 6, none⟩ = false := ⟨(xc h 0).trans rfl, xf h 0, (xc h 1).trans rfl, xf h 1, (xc h 2).trans rfl, xf h 2, (xc h 3).trans rfl, xf h 3, (xc h 4).trans rfl, xf h 4, (xc h 5).trans rfl, xf h 5, (xc h 6).trans rfl, xf h 6⟩
set_option maxHeartbeats 8000000 in
set_option maxRecDepth 100000 in
theorem laws_FnExactOutOf.calls (k : Nat) (A0_0 : Option Addr) (c0_0 : Nat) (l0_0 : List Int) (a0_1 : Int) (A0_2 : Option Addr) (c0_2 : Nat) (l0_2 : List Int) (A0_3 : Option Addr) (c0_3 : Nat) (l0_3 : List (S176)) (A0_4 : Option Addr) (c0_4 : Nat) (l0_4 : List Int) (a0_5 : Int) (a0_6 : Int) (w : World) (hr0_0 : Kd.C (Kd.int .i64) w A0_0 l0_0.length l0_0) (hc0_0 : l0_0.length ≤ c0_0) (hr0_2 : Kd.C (Kd.int .i64) w A0_2 l0_2.length l0_2) (hc0_2 : l0_2.length ≤ c0_2) (hr0_3 : Kd.C k176 w A0_3 l0_3.length l0_3) (hc0_3 : l0_3.length ≤ c0_3) (hr0_4 : Kd.C (Kd.int .i64) w A0_4 l0_4.length l0_4) (hc0_4 : l0_4.length ≤ c0_4) (h : laws_FnExactOutOf.f k l0_0 a0_1 l0_2 l0_3 l0_4 a0_5 a0_6 = some true) :
  Calls Try.prog 11 #[.agg #[.slice A0_0 l0_0.length c0_0, .int .i64 a0_1, .slice A0_2 l0_2.length c0_2, .slice A0_3 l0_3.length c0_3, .slice A0_4 l0_4.length c0_4, .int .i64 a0_5, .int .i64 a0_6]] w fun e w' => e = .returned (.bool true) ∧ Below w.heap.size w w' := by
 have hu34 := Try.underlying34
 have hu66 := Try.underlying66
 have HR0_0 := xm hr0_0
 have HC0_0 := xm hc0_0
 clear hr0_0 hc0_0
 have HR0_2 := xm hr0_2
 have HC0_2 := xm hc0_2
 clear hr0_2 hc0_2
 have HR0_3 := xm hr0_3
 have HC0_3 := xm hc0_3
 clear hr0_3 hc0_3
 have HR0_4 := xm hr0_4
 have HC0_4 := xm hc0_4
 clear hr0_4 hc0_4
 have HB := xm (Below.refl w.heap.size w)
 unfold laws_FnExactOutOf.f at h
 replace h := Option.bind_eq_some_iff.mp h
 obtain ⟨t3_0, t3A0, h⟩ := h
 (try dsimp only at h)
 have t3A := xm t3A0
 clear t3A0
 by_cases c4 : t3_0 < 0
 ·have c4b := decide_eq_true c4
  clear c4
  clear h
  go_enter Try.func11, Try.ntmps11
  go_wp2_with (first
   | ((with_reducible refine gate_dst (N := 1) rfl ?_); refine box_event ?hgq2 (N := 1) ?hdq2 (cs := #[.slice A0_0 l0_0.length c0_0, .int .i64 a0_1, .slice A0_2 l0_2.length c0_2, .slice A0_3 l0_3.length c0_3, .slice A0_4 l0_4.length c0_4, .int .i64 a0_5, .int .i64 a0_6]) (t := 66) ?hrq2 ?_; (case hdq2 => rfl); (case hgq2 => rfl); (case hrq2 => first | (go_simp; done) | (go_simp; rfl)); intro g1 hg_ w1_ hbox_ hb_; have Z1 := xm (hb_.size : w.heap.size ≤ w1_.heap.size); have hk_ := Kept.of_below hb_ (fun _ => False); have m0_ := xm (below_step (w := w) HB.out hb_); clear HB; have HB := m0_; have BKg1 := xm hbox_; have GBg1 : Aside0 (w.heap.size ≤ g1 ∧ g1 < w1_.heap.size) := xm ⟨by rw [hg_]; exact Nat.le_refl _, blk_lt hbox_⟩; clear m0_ hb_ hbox_ hg_ hk_; obtain ⟨hcg1_0, hfg1_0, hcg1_1, hfg1_1, hcg1_2, hfg1_2, hcg1_3, hfg1_3, hcg1_4, hfg1_4, hcg1_5, hfg1_5, hcg1_6, hfg1_6⟩ := laws_FnExactOutOf.cs7 BKg1.out)
   | ((with_reducible refine gate_callee (f := 45) rfl ?_); refine goesL_ (some 19) rfl rfl Try.func45 (by kernel_rfl) rfl #[.agg #[.slice A0_0 l0_0.length c0_0, .int .i64 a0_1, .slice A0_2 l0_2.length c0_2, .slice A0_3 l0_3.length c0_3, .slice A0_4 l0_4.length c0_4, .int .i64 a0_5, .int .i64 a0_6], .int .i64 1048576] rfl (by (try simp only [List.map_toArray, List.map_cons, List.map_nil]); first | done | rfl) ?_; refine (laws_szSink.calls k _ _ l0_0 a0_1 _ _ l0_2 _ _ l0_3 _ _ l0_4 a0_5 a0_6 1048576 t3_0 _ (Kd.C_below HR0_0.out HB.out) HC0_0.out (Kd.C_below HR0_2.out HB.out) HC0_2.out (Kd.C_below HR0_3.out HB.out) HC0_3.out (Kd.C_below HR0_4.out HB.out) HC0_4.out t3A.out).mono ?_; rintro e w2_ ⟨rfl, hb_⟩; refine ⟨_, rfl, ?_⟩; have Z2 := xm (hb_.size : w1_.heap.size ≤ w2_.heap.size); have hk_ := Kept.of_below hb_ (fun _ => False); have m0_ := xm (blk_kept BKg1.out hk_ (fun h_ => h_)); clear BKg1; have BKg1 := m0_; clear m0_; have m0_ := xm (below_step (w := w) HB.out hb_); clear HB; have HB := m0_; clear m0_ hb_ hk_; clear hcg1_0 hfg1_0 hcg1_1 hfg1_1 hcg1_2 hfg1_2 hcg1_3 hfg1_3 hcg1_4 hfg1_4 hcg1_5 hfg1_5 hcg1_6 hfg1_6; obtain ⟨hcg1_0, hfg1_0, hcg1_1, hfg1_1, hcg1_2, hfg1_2, hcg1_3, hfg1_3, hcg1_4, hfg1_4, hcg1_5, hfg1_5, hcg1_6, hfg1_6⟩ := laws_FnExactOutOf.cs7 BKg1.out))
  go_wp2
  go_ret
  exact ⟨by first | rfl | (simp [errW_none, errW_some] <;> rfl) | (simp [*, errW_none, errW_some] <;> rfl), HB.out⟩
 rw [if_neg c4] at h
 have c4b := decide_eq_false c4
 clear c4
 replace h := Option.bind_eq_some_iff.mp h
 obtain ⟨⟨t5_0, t5_1, t5_2, t5_3, t5_4, t5_5, t5_6⟩, t5A0, h⟩ := h
 (try dsimp only at h)
 have t5A := xm t5A0
 clear t5A0
 replace h := Option.bind_eq_some_iff.mp h
 obtain ⟨⟨t30_0, t30_1, t30_2⟩, t30A0, h⟩ := h
 (try dsimp only at h)
 have t30A := xm t30A0
 clear t30A0
 replace h := Option.bind_eq_some_iff.mp h
 obtain ⟨⟨t37_0, t37_1, t37_2, t37_3, t37_4, t37_5, t37_6⟩, t37A0, h⟩ := h
 (try dsimp only at h)
 have t37A := xm t37A0
 clear t37A0
 replace h := Option.bind_eq_some_iff.mp h
 obtain ⟨⟨t65_0, t65_1, t65_2⟩, t65A0, h⟩ := h
 (try dsimp only at h)
 have t65A := xm t65A0
 clear t65A0
 replace h := Option.bind_eq_some_iff.mp h
 obtain ⟨t72_0, t72A0, h⟩ := h
 (try dsimp only at h)
 have t72A := xm t72A0
 clear t72A0
 replace h := law_t h
 obtain ⟨c73, h⟩ := h
 subst c73
 replace h := law_t h
 obtain ⟨c74, h⟩ := h
 have c74b0 : (t65_1 == t30_1) = true := beq_iff_eq.mpr c74
 have c74b1 : (t65_1 != t30_1) = false := bne_eq_false_iff_eq.mpr c74
 have c74b2 : decide (t65_1 = t30_1) = true := decide_eq_true c74
 clear c74
 replace h := law_f h
 obtain ⟨c75, h⟩ := h
 have c75b0 : (t65_2 != t30_2) = false := by simpa using c75
 have c75b1 : decide (t65_2 = t30_2) = true := by simpa using c75
 have c75b2 : (t65_2 == t30_2) = true := by simpa using c75
 clear c75
 replace h := Option.bind_eq_some_iff.mp h
 obtain ⟨⟨t76_0, t76_1, t76_2, t76_3, t76_4, t76_5, t76_6⟩, t76A0, h⟩ := h
 (try dsimp only at h)
 have t76A := xm t76A0
 clear t76A0
 replace h := Option.bind_eq_some_iff.mp h
 obtain ⟨t101_0, t101A0, h⟩ := h
 (try dsimp only at h)
 have t101A := xm t101A0
 clear t101A0
 replace h := law_t h
 obtain ⟨c102, h⟩ := h
 subst c102
 replace h := Option.bind_eq_some_iff.mp h
 obtain ⟨⟨t103_0, t103_1, t103_2, t103_3, t103_4⟩, t103A0, h⟩ := h
 (try dsimp only at h)
 have t103A := xm t103A0
 clear t103A0
 replace h := law_f h
 obtain ⟨c104, h⟩ := h
 have c104b := decide_eq_false c104
 clear c104
 replace h := Option.bind_eq_some_iff.mp h
 obtain ⟨t105_0, t105A0, h⟩ := h
 (try dsimp only at h)
 have t105A := xm t105A0
 clear t105A0
 replace h := law_t h
 obtain ⟨c106, h⟩ := h
 subst c106
 replace h := law_t h
 obtain ⟨c107, h⟩ := h
 have c107b0 : (t65_1 == t30_1) = true := beq_iff_eq.mpr c107
 have c107b1 : (t65_1 != t30_1) = false := bne_eq_false_iff_eq.mpr c107
 have c107b2 : decide (t65_1 = t30_1) = true := decide_eq_true c107
 clear c107
 replace h := law_f h
 obtain ⟨c108, h⟩ := h
 have c108b0 : (t65_2 != t30_2) = false := by simpa using c108
 have c108b1 : decide (t65_2 = t30_2) = true := by simpa using c108
 have c108b2 : (t65_2 == t30_2) = true := by simpa using c108
 clear c108
 replace h := Option.bind_eq_some_iff.mp h
 obtain ⟨⟨t109_0, t109_1⟩, t109A0, h⟩ := h
 (try dsimp only at h)
 have t109A := xm t109A0
 clear t109A0
 replace h := Option.bind_eq_some_iff.mp h
 obtain ⟨t110_0, t110A0, h⟩ := h
 (try dsimp only at h)
 have t110A := xm t110A0
 clear t110A0
 replace h := law_f h
 obtain ⟨c111, h⟩ := h
 have c111b := decide_eq_false c111
 clear c111
 replace h := law_t h
 obtain ⟨c112, h⟩ := h
 have c112b0 : (t110_0 == t109_0) = true := beq_iff_eq.mpr c112
 have c112b1 : (t110_0 != t109_0) = false := bne_eq_false_iff_eq.mpr c112
 have c112b2 : decide (t110_0 = t109_0) = true := decide_eq_true c112
 clear c112
 replace h := Option.bind_eq_some_iff.mp h
 obtain ⟨⟨t113_0, t113_1, t113_2, t113_3, t113_4, t113_5, t113_6⟩, t113A0, h⟩ := h
 (try dsimp only at h)
 have t113A := xm t113A0
 clear t113A0
 replace h := Option.bind_eq_some_iff.mp h
 obtain ⟨⟨t138_0, t138_1, t138_2⟩, t138A0, h⟩ := h
 (try dsimp only at h)
 have t138A := xm t138A0
 clear t138A0
 replace h := Option.bind_eq_some_iff.mp h
 obtain ⟨t145_0, t145A0, h⟩ := h
 (try dsimp only at h)
 have t145A := xm t145A0
 clear t145A0
 replace h := law_t h
 obtain ⟨c146, h⟩ := h
 subst c146
 replace h := law_t h
 obtain ⟨c147, h⟩ := h
 have c147b0 : (t138_1 == t30_1) = true := beq_iff_eq.mpr c147
 have c147b1 : (t138_1 != t30_1) = false := bne_eq_false_iff_eq.mpr c147
 have c147b2 : decide (t138_1 = t30_1) = true := decide_eq_true c147
 clear c147
 replace h := law_f h
 obtain ⟨c148, h⟩ := h
 have c148b0 : (t138_2 != t30_2) = false := by simpa using c148
 have c148b1 : decide (t138_2 = t30_2) = true := by simpa using c148
 have c148b2 : (t138_2 == t30_2) = true := by simpa using c148
 clear c148
 replace h := Option.bind_eq_some_iff.mp h
 obtain ⟨t149_0, t149A0, h⟩ := h
 (try dsimp only at h)
 have t149A := xm t149A0
 clear t149A0
 replace h := law_f h
 obtain ⟨c150, h⟩ := h
 have c150b := decide_eq_false c150
 clear c150
 replace h := law_t h
 obtain ⟨c151, h⟩ := h
 have c151b0 : (t149_0 == t109_0) = true := beq_iff_eq.mpr c151
 have c151b1 : (t149_0 != t109_0) = false := bne_eq_false_iff_eq.mpr c151
 have c151b2 : decide (t149_0 = t109_0) = true := decide_eq_true c151
 clear c151
 clear h
 go_enter Try.func11, Try.ntmps11
 go_wp2_with (first
  | ((with_reducible refine gate_dst (N := 1) rfl ?_); refine box_event ?hgq2 (N := 1) ?hdq2 (cs := #[.slice A0_0 l0_0.length c0_0, .int .i64 a0_1, .slice A0_2 l0_2.length c0_2, .slice A0_3 l0_3.length c0_3, .slice A0_4 l0_4.length c0_4, .int .i64 a0_5, .int .i64 a0_6]) (t := 66) ?hrq2 ?_; (case hdq2 => rfl); (case hgq2 => rfl); (case hrq2 => first | (go_simp; done) | (go_simp; rfl)); intro g1 hg_ w1_ hbox_ hb_; have Z1 := xm (hb_.size : w.heap.size ≤ w1_.heap.size); have hk_ := Kept.of_below hb_ (fun _ => False); have m0_ := xm (below_step (w := w) HB.out hb_); clear HB; have HB := m0_; have BKg1 := xm hbox_; have GBg1 : Aside0 (w.heap.size ≤ g1 ∧ g1 < w1_.heap.size) := xm ⟨by rw [hg_]; exact Nat.le_refl _, blk_lt hbox_⟩; clear m0_ hb_ hbox_ hg_ hk_; obtain ⟨hcg1_0, hfg1_0, hcg1_1, hfg1_1, hcg1_2, hfg1_2, hcg1_3, hfg1_3, hcg1_4, hfg1_4, hcg1_5, hfg1_5, hcg1_6, hfg1_6⟩ := laws_FnExactOutOf.cs7 BKg1.out)
  | ((with_reducible refine gate_callee (f := 45) rfl ?_); refine goesL_ (some 19) rfl rfl Try.func45 (by kernel_rfl) rfl #[.agg #[.slice A0_0 l0_0.length c0_0, .int .i64 a0_1, .slice A0_2 l0_2.length c0_2, .slice A0_3 l0_3.length c0_3, .slice A0_4 l0_4.length c0_4, .int .i64 a0_5, .int .i64 a0_6], .int .i64 1048576] rfl (by (try simp only [List.map_toArray, List.map_cons, List.map_nil]); first | done | rfl) ?_; refine (laws_szSink.calls k _ _ l0_0 a0_1 _ _ l0_2 _ _ l0_3 _ _ l0_4 a0_5 a0_6 1048576 t3_0 _ (Kd.C_below HR0_0.out HB.out) HC0_0.out (Kd.C_below HR0_2.out HB.out) HC0_2.out (Kd.C_below HR0_3.out HB.out) HC0_3.out (Kd.C_below HR0_4.out HB.out) HC0_4.out t3A.out).mono ?_; rintro e w2_ ⟨rfl, hb_⟩; refine ⟨_, rfl, ?_⟩; have Z2 := xm (hb_.size : w1_.heap.size ≤ w2_.heap.size); have hk_ := Kept.of_below hb_ (fun _ => False); have m0_ := xm (blk_kept BKg1.out hk_ (fun h_ => h_)); clear BKg1; have BKg1 := m0_; clear m0_; have m0_ := xm (below_step (w := w) HB.out hb_); clear HB; have HB := m0_; clear m0_ hb_ hk_; clear hcg1_0 hfg1_0 hcg1_1 hfg1_1 hcg1_2 hfg1_2 hcg1_3 hfg1_3 hcg1_4 hfg1_4 hcg1_5 hfg1_5 hcg1_6 hfg1_6; obtain ⟨hcg1_0, hfg1_0, hcg1_1, hfg1_1, hcg1_2, hfg1_2, hcg1_3, hfg1_3, hcg1_4, hfg1_4, hcg1_5, hfg1_5, hcg1_6, hfg1_6⟩ := laws_FnExactOutOf.cs7 BKg1.out)
  | ((with_reducible refine gate_callee (f := 47) rfl ?_); refine goesL_ (some 24) rfl rfl Try.func47 (by kernel_rfl) rfl #[.agg #[.slice A0_0 l0_0.length c0_0, .int .i64 a0_1, .slice A0_2 l0_2.length c0_2, .slice A0_3 l0_3.length c0_3, .slice A0_4 l0_4.length c0_4, .int .i64 a0_5, .int .i64 a0_6]] rfl (by (try simp only [List.map_toArray, List.map_cons, List.map_nil]); first | done | rfl) ?_; refine (laws_toSink.calls k _ _ l0_0 a0_1 _ _ l0_2 _ _ l0_3 _ _ l0_4 a0_5 a0_6 t5_0 t5_1 t5_2 t5_3 t5_4 t5_5 t5_6 _ (Kd.C_below HR0_0.out HB.out) HC0_0.out (Kd.C_below HR0_2.out HB.out) HC0_2.out (Kd.C_below HR0_3.out HB.out) HC0_3.out (Kd.C_below HR0_4.out HB.out) HC0_4.out t5A.out).mono ?_; rintro e w3_ ⟨v0_, v2_, v3_, v4_, rfl, h0_, h1_, h2_, h3_, hb_⟩; refine ⟨_, rfl, ?_⟩; have Z3 := xm (hb_.size : w2_.heap.size ≤ w3_.heap.size); have hk_ := Kept.of_below hb_ (fun _ => False); obtain ⟨A7, c8, rfl⟩ := Kd.R_slice h0_; obtain ⟨A13, c14, rfl⟩ := Kd.R_slice h1_; obtain ⟨A19, c20, rfl⟩ := Kd.S_slice h2_; obtain ⟨A25, c26, rfl⟩ := Kd.R_slice h3_; obtain ⟨P9, p1_, p2_, p3_⟩ := hideT (base := w.heap.size) rfl h0_ (szOf (w := w) HB.out); have F6 := xm p1_; have B10 : Aside0 (∀ k_, P9 k_ → w2_.heap.size ≤ k_ ∧ k_ < w3_.heap.size) := xm p2_; have T11 := xm p3_; clear p1_ p2_ p3_; obtain ⟨P15, p1_, p2_, p3_⟩ := hideT (base := w.heap.size) rfl h1_ (szOf (w := w) HB.out); have F12 := xm p1_; have B16 : Aside0 (∀ k_, P15 k_ → w2_.heap.size ≤ k_ ∧ k_ < w3_.heap.size) := xm p2_; have T17 := xm p3_; clear p1_ p2_ p3_; obtain ⟨P21, p1_, p2_, p3_⟩ := hideS (base := w.heap.size) h2_ (szOf (w := w) HB.out); have F18 := xm p1_; have B22 : Aside0 (∀ k_, P21 k_ → w2_.heap.size ≤ k_ ∧ k_ < w3_.heap.size) := xm p2_; have T23 := xm p3_; clear p1_ p2_ p3_; obtain ⟨P27, p1_, p2_, p3_⟩ := hideT (base := w.heap.size) rfl h3_ (szOf (w := w) HB.out); have F24 := xm p1_; have B28 : Aside0 (∀ k_, P27 k_ → w2_.heap.size ≤ k_ ∧ k_ < w3_.heap.size) := xm p2_; have T29 := xm p3_; clear p1_ p2_ p3_; have m0_ := xm (blk_kept BKg1.out hk_ (fun h_ => h_)); clear BKg1; have BKg1 := m0_; clear m0_; have m0_ := xm (below_step (w := w) HB.out hb_); clear HB; have HB := m0_; clear m0_ hb_ hk_ h0_ h1_ h2_ h3_; clear hcg1_0 hfg1_0 hcg1_1 hfg1_1 hcg1_2 hfg1_2 hcg1_3 hfg1_3 hcg1_4 hfg1_4 hcg1_5 hfg1_5 hcg1_6 hfg1_6; obtain ⟨hcg1_0, hfg1_0, hcg1_1, hfg1_1, hcg1_2, hfg1_2, hcg1_3, hfg1_3, hcg1_4, hfg1_4, hcg1_5, hfg1_5, hcg1_6, hfg1_6⟩ := laws_FnExactOutOf.cs7 BKg1.out)
  | ((with_reducible refine gate_callee (f := 60) rfl ?_); refine goesL_ (some 25) rfl rfl Try.func60 (by kernel_rfl) rfl #[.agg #[.slice A7 t5_0.length c8, .int .i64 t5_1, .slice A13 t5_2.length c14, .slice A19 t5_3.length c20, .slice A25 t5_4.length c26, .int .i64 t5_5, .int .i64 t5_6]] rfl (by (try simp only [List.map_toArray, List.map_cons, List.map_nil]); first | done | rfl) ?_; refine (spec_OutOf.calls k _ _ t5_0 t5_1 _ _ t5_2 _ _ t5_3 _ _ t5_4 t5_5 t5_6 t30_0 t30_1 t30_2 _ (Kd.R_reads' F6.out).2.2 (Kd.R_reads' F6.out).2.1 (Kd.R_reads' F12.out).2.2 (Kd.R_reads' F12.out).2.1 (Kd.S_reads' F18.out).2.2 (Kd.S_reads' F18.out).2.1 (Kd.R_reads' F24.out).2.2 (Kd.R_reads' F24.out).2.1 t30A.out).mono ?_; rintro e w4_ ⟨v0_, rfl, h0_, hb_⟩; refine ⟨_, rfl, ?_⟩; have Z4 := xm (hb_.size : w3_.heap.size ≤ w4_.heap.size); have hk_ := Kept.of_below hb_ (fun _ => False); obtain ⟨A32, c33, rfl⟩ := Kd.R_slice h0_; obtain ⟨P34, p1_, p2_, p3_⟩ := hideT (base := w.heap.size) rfl h0_ (szOf (w := w) HB.out); have F31 := xm p1_; have B35 : Aside0 (∀ k_, P34 k_ → w3_.heap.size ≤ k_ ∧ k_ < w4_.heap.size) := xm p2_; have T36 := xm p3_; clear p1_ p2_ p3_; have m0_ := xm (Kd.R_kept F6.out hk_ (fun _ _ h_ => h_)); have m1_ := xm (Kd.R_kept F12.out hk_ (fun _ _ h_ => h_)); have m2_ := xm (Kd.S_kept F18.out hk_ (fun _ _ h_ => h_)); have m3_ := xm (Kd.R_kept F24.out hk_ (fun _ _ h_ => h_)); have m4_ := xm (blk_kept BKg1.out hk_ (fun h_ => h_)); clear F6 F12 F18 F24 BKg1; have F6 := m0_; have F12 := m1_; have F18 := m2_; have F24 := m3_; have BKg1 := m4_; clear m0_ m1_ m2_ m3_ m4_; have m0_ := xm (below_step (w := w) HB.out hb_); clear HB; have HB := m0_; clear m0_ hb_ hk_ h0_; clear hcg1_0 hfg1_0 hcg1_1 hfg1_1 hcg1_2 hfg1_2 hcg1_3 hfg1_3 hcg1_4 hfg1_4 hcg1_5 hfg1_5 hcg1_6 hfg1_6; obtain ⟨hcg1_0, hfg1_0, hcg1_1, hfg1_1, hcg1_2, hfg1_2, hcg1_3, hfg1_3, hcg1_4, hfg1_4, hcg1_5, hfg1_5, hcg1_6, hfg1_6⟩ := laws_FnExactOutOf.cs7 BKg1.out)
  | ((with_reducible refine gate_callee (f := 47) rfl ?_); refine goesL_ (some 30) rfl rfl Try.func47 (by kernel_rfl) rfl #[.agg #[.slice A0_0 l0_0.length c0_0, .int .i64 a0_1, .slice A0_2 l0_2.length c0_2, .slice A0_3 l0_3.length c0_3, .slice A0_4 l0_4.length c0_4, .int .i64 a0_5, .int .i64 a0_6]] rfl (by (try simp only [List.map_toArray, List.map_cons, List.map_nil]); first | done | rfl) ?_; refine (laws_toSink.calls k _ _ l0_0 a0_1 _ _ l0_2 _ _ l0_3 _ _ l0_4 a0_5 a0_6 t37_0 t37_1 t37_2 t37_3 t37_4 t37_5 t37_6 _ (Kd.C_below HR0_0.out HB.out) HC0_0.out (Kd.C_below HR0_2.out HB.out) HC0_2.out (Kd.C_below HR0_3.out HB.out) HC0_3.out (Kd.C_below HR0_4.out HB.out) HC0_4.out t37A.out).mono ?_; rintro e w5_ ⟨v0_, v2_, v3_, v4_, rfl, h0_, h1_, h2_, h3_, hb_⟩; refine ⟨_, rfl, ?_⟩; have Z5 := xm (hb_.size : w4_.heap.size ≤ w5_.heap.size); have hk_ := Kept.of_below hb_ (fun _ => False); obtain ⟨A39, c40, rfl⟩ := Kd.R_slice h0_; obtain ⟨A45, c46, rfl⟩ := Kd.R_slice h1_; obtain ⟨A51, c52, rfl⟩ := Kd.S_slice h2_; obtain ⟨A57, c58, rfl⟩ := Kd.R_slice h3_; obtain ⟨P41, p1_, p2_, p3_⟩ := hideT (base := w.heap.size) rfl h0_ (szOf (w := w) HB.out); have F38 := xm p1_; have B42 : Aside0 (∀ k_, P41 k_ → w4_.heap.size ≤ k_ ∧ k_ < w5_.heap.size) := xm p2_; have T43 := xm p3_; clear p1_ p2_ p3_; obtain ⟨P47, p1_, p2_, p3_⟩ := hideT (base := w.heap.size) rfl h1_ (szOf (w := w) HB.out); have F44 := xm p1_; have B48 : Aside0 (∀ k_, P47 k_ → w4_.heap.size ≤ k_ ∧ k_ < w5_.heap.size) := xm p2_; have T49 := xm p3_; clear p1_ p2_ p3_; obtain ⟨P53, p1_, p2_, p3_⟩ := hideS (base := w.heap.size) h2_ (szOf (w := w) HB.out); have F50 := xm p1_; have B54 : Aside0 (∀ k_, P53 k_ → w4_.heap.size ≤ k_ ∧ k_ < w5_.heap.size) := xm p2_; have T55 := xm p3_; clear p1_ p2_ p3_; obtain ⟨P59, p1_, p2_, p3_⟩ := hideT (base := w.heap.size) rfl h3_ (szOf (w := w) HB.out); have F56 := xm p1_; have B60 : Aside0 (∀ k_, P59 k_ → w4_.heap.size ≤ k_ ∧ k_ < w5_.heap.size) := xm p2_; have T61 := xm p3_; clear p1_ p2_ p3_; have m0_ := xm (Kd.R_kept F6.out hk_ (fun _ _ h_ => h_)); have m1_ := xm (Kd.R_kept F12.out hk_ (fun _ _ h_ => h_)); have m2_ := xm (Kd.S_kept F18.out hk_ (fun _ _ h_ => h_)); have m3_ := xm (Kd.R_kept F24.out hk_ (fun _ _ h_ => h_)); have m4_ := xm (Kd.R_kept F31.out hk_ (fun _ _ h_ => h_)); have m5_ := xm (blk_kept BKg1.out hk_ (fun h_ => h_)); clear F6 F12 F18 F24 F31 BKg1; have F6 := m0_; have F12 := m1_; have F18 := m2_; have F24 := m3_; have F31 := m4_; have BKg1 := m5_; clear m0_ m1_ m2_ m3_ m4_ m5_; have m0_ := xm (below_step (w := w) HB.out hb_); clear HB; have HB := m0_; clear m0_ hb_ hk_ h0_ h1_ h2_ h3_; clear hcg1_0 hfg1_0 hcg1_1 hfg1_1 hcg1_2 hfg1_2 hcg1_3 hfg1_3 hcg1_4 hfg1_4 hcg1_5 hfg1_5 hcg1_6 hfg1_6; obtain ⟨hcg1_0, hfg1_0, hcg1_1, hfg1_1, hcg1_2, hfg1_2, hcg1_3, hfg1_3, hcg1_4, hfg1_4, hcg1_5, hfg1_5, hcg1_6, hfg1_6⟩ := laws_FnExactOutOf.cs7 BKg1.out)
  | ((with_reducible refine gate_dst (N := 7) rfl ?_); refine box_event ?hgq63 (N := 7) ?hdq63 (cs := #[.slice none 0 0, .int .i64 0, .slice none 0 0, .slice none 0 0, .slice none 0 0, .int .i64 0, .int .i64 0]) (t := 34) ?hrq63 ?_; (case hdq63 => rfl); (case hgq63 => rfl); (case hrq63 => first | (go_simp; done) | (go_simp; rfl)); intro g62 hg_ w6_ hbox_ hb_; have Z6 := xm (hb_.size : w5_.heap.size ≤ w6_.heap.size); have hk_ := Kept.of_below hb_ (fun _ => False); have m0_ := xm (Kd.R_kept F6.out hk_ (fun _ _ h_ => h_)); have m1_ := xm (Kd.R_kept F12.out hk_ (fun _ _ h_ => h_)); have m2_ := xm (Kd.S_kept F18.out hk_ (fun _ _ h_ => h_)); have m3_ := xm (Kd.R_kept F24.out hk_ (fun _ _ h_ => h_)); have m4_ := xm (Kd.R_kept F31.out hk_ (fun _ _ h_ => h_)); have m5_ := xm (Kd.R_kept F38.out hk_ (fun _ _ h_ => h_)); have m6_ := xm (Kd.R_kept F44.out hk_ (fun _ _ h_ => h_)); have m7_ := xm (Kd.S_kept F50.out hk_ (fun _ _ h_ => h_)); have m8_ := xm (Kd.R_kept F56.out hk_ (fun _ _ h_ => h_)); have m9_ := xm (blk_kept BKg1.out hk_ (fun h_ => h_)); clear F6 F12 F18 F24 F31 F38 F44 F50 F56 BKg1; have F6 := m0_; have F12 := m1_; have F18 := m2_; have F24 := m3_; have F31 := m4_; have F38 := m5_; have F44 := m6_; have F50 := m7_; have F56 := m8_; have BKg1 := m9_; clear m0_ m1_ m2_ m3_ m4_ m5_ m6_ m7_ m8_ m9_; have m0_ := xm (below_step (w := w) HB.out hb_); clear HB; have HB := m0_; have BKg62 := xm hbox_; have GBg62 : Aside0 (w5_.heap.size ≤ g62 ∧ g62 < w6_.heap.size) := xm ⟨by rw [hg_]; exact Nat.le_refl _, blk_lt hbox_⟩; clear m0_ hb_ hbox_ hg_ hk_; clear hcg1_0 hfg1_0 hcg1_1 hfg1_1 hcg1_2 hfg1_2 hcg1_3 hfg1_3 hcg1_4 hfg1_4 hcg1_5 hfg1_5 hcg1_6 hfg1_6; obtain ⟨hcg1_0, hfg1_0, hcg1_1, hfg1_1, hcg1_2, hfg1_2, hcg1_3, hfg1_3, hcg1_4, hfg1_4, hcg1_5, hfg1_5, hcg1_6, hfg1_6⟩ := laws_FnExactOutOf.cs7 BKg1.out; obtain ⟨hcg62_0, hfg62_0, hcg62_1, hfg62_1, hcg62_2, hfg62_2, hcg62_3, hfg62_3, hcg62_4, hfg62_4, hcg62_5, hfg62_5, hcg62_6, hfg62_6⟩ := laws_FnExactOutOf.cs7 BKg62.out)
  | ((with_reducible refine gate_store (t := 34) (p := 7) rfl ?_); refine store_event (t := 34) (p := 7) (v := ?voq64) (w1 := (((((((w6_.setCell ⟨g62, 0, none⟩ (.slice A39 t37_0.length c40)).setCell ⟨g62, 1, none⟩ (.int .i64 t37_1)).setCell ⟨g62, 2, none⟩ (.slice A45 t37_2.length c46)).setCell ⟨g62, 3, none⟩ (.slice A51 t37_3.length c52)).setCell ⟨g62, 4, none⟩ (.slice A57 t37_4.length c58)).setCell ⟨g62, 5, none⟩ (.int .i64 t37_5)).setCell ⟨g62, 6, none⟩ (.int .i64 t37_6))) ?hgq64 ?hoq64 ?hnq64 ?hrq64 ?_; (case hoq64 => rfl); (case hgq64 => rfl); (case hnq64 => rfl); (case hrq64 => first | (go_simp; done) | (go_simp; rfl)); intro w7_ hw_; have hk_ : Kept w6_ w7_ (fun k_ => k_ = g62) := (by rw [hw_]; exact kept_box (kept_box (kept_box (kept_box (kept_box (kept_box (kept_box (Kept.refl _ _) _ _) _ _) _ _) _ _) _ _) _ _) _ _); have hx_ : w7_.heap[g62]? = some (.cells #[.slice A39 t37_0.length c40, .int .i64 t37_1, .slice A45 t37_2.length c46, .slice A51 t37_3.length c52, .slice A57 t37_4.length c58, .int .i64 t37_5, .int .i64 t37_6] 34 (0, 0)) := (by rw [hw_]; refine blk_put (cs := #[.slice A39 t37_0.length c40, .int .i64 t37_1, .slice A45 t37_2.length c46, .slice A51 t37_3.length c52, .slice A57 t37_4.length c58, .int .i64 t37_5, .int .i64 0]) ?_ 6 _ rfl; refine blk_put (cs := #[.slice A39 t37_0.length c40, .int .i64 t37_1, .slice A45 t37_2.length c46, .slice A51 t37_3.length c52, .slice A57 t37_4.length c58, .int .i64 0, .int .i64 0]) ?_ 5 _ rfl; refine blk_put (cs := #[.slice A39 t37_0.length c40, .int .i64 t37_1, .slice A45 t37_2.length c46, .slice A51 t37_3.length c52, .slice none 0 0, .int .i64 0, .int .i64 0]) ?_ 4 _ rfl; refine blk_put (cs := #[.slice A39 t37_0.length c40, .int .i64 t37_1, .slice A45 t37_2.length c46, .slice none 0 0, .slice none 0 0, .int .i64 0, .int .i64 0]) ?_ 3 _ rfl; refine blk_put (cs := #[.slice A39 t37_0.length c40, .int .i64 t37_1, .slice none 0 0, .slice none 0 0, .slice none 0 0, .int .i64 0, .int .i64 0]) ?_ 2 _ rfl; refine blk_put (cs := #[.slice A39 t37_0.length c40, .int .i64 0, .slice none 0 0, .slice none 0 0, .slice none 0 0, .int .i64 0, .int .i64 0]) ?_ 1 _ rfl; refine blk_put (cs := #[.slice none 0 0, .int .i64 0, .slice none 0 0, .slice none 0 0, .slice none 0 0, .int .i64 0, .int .i64 0]) ?_ 0 _ rfl; exact BKg62.out); have Z7 := xm (hk_.1 : w6_.heap.size ≤ w7_.heap.size); have ge_ : w.heap.size ≤ g62 := (by have := GBg62.out; have := Z1.out; have := Z2.out; have := Z3.out; have := Z4.out; have := Z5.out; omega); have mb_ : Aside0 (Below w.heap.size w w7_) := xm (by rw [hw_]; exact xt (xt (xt (xt (xt (xt (xt (HB.out) ge_) ge_) ge_) ge_) ge_) ge_) ge_); have hk2_ := (Kept.mono hk_ (S' := fun k_ => w5_.heap.size ≤ k_ ∧ k_ < w6_.heap.size) (fun k_ h_ => by have h_ : k_ = g62 := h_; subst h_; exact GBg62.out)); have m0_ := xm (Kd.R_kept F6.out hk2_ (fun k_ h_ h2_ => by have u1_ := B10.out k_ h_; have u2_ : w5_.heap.size ≤ k_ ∧ k_ < w6_.heap.size := h2_; have := Z4.out; have := Z5.out; omega)); have m1_ := xm (Kd.R_kept F12.out hk2_ (fun k_ h_ h2_ => by have u1_ := B16.out k_ h_; have u2_ : w5_.heap.size ≤ k_ ∧ k_ < w6_.heap.size := h2_; have := Z4.out; have := Z5.out; omega)); have m2_ := xm (Kd.S_kept F18.out hk2_ (fun k_ h_ h2_ => by have u1_ := B22.out k_ h_; have u2_ : w5_.heap.size ≤ k_ ∧ k_ < w6_.heap.size := h2_; have := Z4.out; have := Z5.out; omega)); have m3_ := xm (Kd.R_kept F24.out hk2_ (fun k_ h_ h2_ => by have u1_ := B28.out k_ h_; have u2_ : w5_.heap.size ≤ k_ ∧ k_ < w6_.heap.size := h2_; have := Z4.out; have := Z5.out; omega)); have m4_ := xm (Kd.R_kept F31.out hk2_ (fun k_ h_ h2_ => by have u1_ := B35.out k_ h_; have u2_ : w5_.heap.size ≤ k_ ∧ k_ < w6_.heap.size := h2_; have := Z5.out; omega)); have m5_ := xm (Kd.R_kept F38.out hk2_ (fun k_ h_ h2_ => by have u1_ := B42.out k_ h_; have u2_ : w5_.heap.size ≤ k_ ∧ k_ < w6_.heap.size := h2_; omega)); have m6_ := xm (Kd.R_kept F44.out hk2_ (fun k_ h_ h2_ => by have u1_ := B48.out k_ h_; have u2_ : w5_.heap.size ≤ k_ ∧ k_ < w6_.heap.size := h2_; omega)); have m7_ := xm (Kd.S_kept F50.out hk2_ (fun k_ h_ h2_ => by have u1_ := B54.out k_ h_; have u2_ : w5_.heap.size ≤ k_ ∧ k_ < w6_.heap.size := h2_; omega)); have m8_ := xm (Kd.R_kept F56.out hk2_ (fun k_ h_ h2_ => by have u1_ := B60.out k_ h_; have u2_ : w5_.heap.size ≤ k_ ∧ k_ < w6_.heap.size := h2_; omega)); have m9_ := xm (blk_kept BKg1.out hk2_ (fun h2_ => by have u1_ := GBg1.out; have u2_ : w5_.heap.size ≤ g1 ∧ g1 < w6_.heap.size := h2_; have := Z2.out; have := Z3.out; have := Z4.out; have := Z5.out; omega)); clear F6 F12 F18 F24 F31 F38 F44 F50 F56 BKg1; have F6 := m0_; have F12 := m1_; have F18 := m2_; have F24 := m3_; have F31 := m4_; have F38 := m5_; have F44 := m6_; have F50 := m7_; have F56 := m8_; have BKg1 := m9_; clear m0_ m1_ m2_ m3_ m4_ m5_ m6_ m7_ m8_ m9_; clear HB BKg62; have HB := mb_; have BKg62 := xm hx_; clear mb_ hx_ hk_ hk2_ hw_ ge_; clear hcg1_0 hfg1_0 hcg1_1 hfg1_1 hcg1_2 hfg1_2 hcg1_3 hfg1_3 hcg1_4 hfg1_4 hcg1_5 hfg1_5 hcg1_6 hfg1_6; obtain ⟨hcg1_0, hfg1_0, hcg1_1, hfg1_1, hcg1_2, hfg1_2, hcg1_3, hfg1_3, hcg1_4, hfg1_4, hcg1_5, hfg1_5, hcg1_6, hfg1_6⟩ := laws_FnExactOutOf.cs7 BKg1.out; clear hcg62_0 hfg62_0 hcg62_1 hfg62_1 hcg62_2 hfg62_2 hcg62_3 hfg62_3 hcg62_4 hfg62_4 hcg62_5 hfg62_5 hcg62_6 hfg62_6; obtain ⟨hcg62_0, hfg62_0, hcg62_1, hfg62_1, hcg62_2, hfg62_2, hcg62_3, hfg62_3, hcg62_4, hfg62_4, hcg62_5, hfg62_5, hcg62_6, hfg62_6⟩ := laws_FnExactOutOf.cs7 BKg62.out)
  | ((with_reducible refine gate_callee (f := 61) rfl ?_); refine goesL_ (some 33) rfl rfl Try.func61 (by kernel_rfl) rfl #[.agg #[.slice A39 t37_0.length c40, .int .i64 t37_1, .slice A45 t37_2.length c46, .slice A51 t37_3.length c52, .slice A57 t37_4.length c58, .int .i64 t37_5, .int .i64 t37_6]] rfl (by (try simp only [List.map_toArray, List.map_cons, List.map_nil]); first | done | rfl) ?_; refine (impl_OutOf.calls k _ _ t37_0 t37_1 _ _ t37_2 _ _ t37_3 _ _ t37_4 t37_5 t37_6 t65_0 t65_1 t65_2 _ (Kd.R_reads' F38.out).2.2 (Kd.R_reads' F38.out).2.1 (Kd.R_reads' F44.out).2.2 (Kd.R_reads' F44.out).2.1 (Kd.S_reads' F50.out).2.2 (Kd.S_reads' F50.out).2.1 (Kd.R_reads' F56.out).2.2 (Kd.R_reads' F56.out).2.1 t65A.out).mono ?_; rintro e w8_ ⟨v0_, rfl, h0_, hb_⟩; refine ⟨_, rfl, ?_⟩; have Z8 := xm (hb_.size : w7_.heap.size ≤ w8_.heap.size); have hk_ := Kept.of_below hb_ (fun _ => False); obtain ⟨A67, c68, rfl⟩ := Kd.R_slice h0_; obtain ⟨P69, p1_, p2_, p3_⟩ := hideT (base := w.heap.size) rfl h0_ (szOf (w := w) HB.out); have F66 := xm p1_; have B70 : Aside0 (∀ k_, P69 k_ → w7_.heap.size ≤ k_ ∧ k_ < w8_.heap.size) := xm p2_; have T71 := xm p3_; clear p1_ p2_ p3_; have m0_ := xm (Kd.R_kept F6.out hk_ (fun _ _ h_ => h_)); have m1_ := xm (Kd.R_kept F12.out hk_ (fun _ _ h_ => h_)); have m2_ := xm (Kd.S_kept F18.out hk_ (fun _ _ h_ => h_)); have m3_ := xm (Kd.R_kept F24.out hk_ (fun _ _ h_ => h_)); have m4_ := xm (Kd.R_kept F31.out hk_ (fun _ _ h_ => h_)); have m5_ := xm (Kd.R_kept F38.out hk_ (fun _ _ h_ => h_)); have m6_ := xm (Kd.R_kept F44.out hk_ (fun _ _ h_ => h_)); have m7_ := xm (Kd.S_kept F50.out hk_ (fun _ _ h_ => h_)); have m8_ := xm (Kd.R_kept F56.out hk_ (fun _ _ h_ => h_)); have m9_ := xm (blk_kept BKg1.out hk_ (fun h_ => h_)); have m10_ := xm (blk_kept BKg62.out hk_ (fun h_ => h_)); clear F6 F12 F18 F24 F31 F38 F44 F50 F56 BKg1 BKg62; have F6 := m0_; have F12 := m1_; have F18 := m2_; have F24 := m3_; have F31 := m4_; have F38 := m5_; have F44 := m6_; have F50 := m7_; have F56 := m8_; have BKg1 := m9_; have BKg62 := m10_; clear m0_ m1_ m2_ m3_ m4_ m5_ m6_ m7_ m8_ m9_ m10_; have m0_ := xm (below_step (w := w) HB.out hb_); clear HB; have HB := m0_; clear m0_ hb_ hk_ h0_; clear hcg1_0 hfg1_0 hcg1_1 hfg1_1 hcg1_2 hfg1_2 hcg1_3 hfg1_3 hcg1_4 hfg1_4 hcg1_5 hfg1_5 hcg1_6 hfg1_6; obtain ⟨hcg1_0, hfg1_0, hcg1_1, hfg1_1, hcg1_2, hfg1_2, hcg1_3, hfg1_3, hcg1_4, hfg1_4, hcg1_5, hfg1_5, hcg1_6, hfg1_6⟩ := laws_FnExactOutOf.cs7 BKg1.out; clear hcg62_0 hfg62_0 hcg62_1 hfg62_1 hcg62_2 hfg62_2 hcg62_3 hfg62_3 hcg62_4 hfg62_4 hcg62_5 hfg62_5 hcg62_6 hfg62_6; obtain ⟨hcg62_0, hfg62_0, hcg62_1, hfg62_1, hcg62_2, hfg62_2, hcg62_3, hfg62_3, hcg62_4, hfg62_4, hcg62_5, hfg62_5, hcg62_6, hfg62_6⟩ := laws_FnExactOutOf.cs7 BKg62.out)
  | ((with_reducible refine gate_callee (f := 29) rfl ?_); refine goesL_ (some 39) rfl rfl Try.func29 (by kernel_rfl) rfl #[.slice A67 t65_0.length c68, .slice A32 t30_0.length c33] rfl (by (try simp only [List.map_toArray, List.map_cons, List.map_nil]); first | done | rfl) ?_; refine (laws_eqIntS.calls k _ _ t65_0 _ _ t30_0 true _ (Kd.R_reads' F66.out).2.2 (Kd.R_reads' F66.out).2.1 (Kd.R_reads' F31.out).2.2 (Kd.R_reads' F31.out).2.1 t72A.out).mono ?_; rintro e w9_ ⟨rfl, hb_⟩; refine ⟨_, rfl, ?_⟩; replace hb_ := hb_.below; have Z9 := xm (hb_.size : w8_.heap.size ≤ w9_.heap.size); have hk_ := Kept.of_below hb_ (fun _ => False); have m0_ := xm (Kd.R_kept F6.out hk_ (fun _ _ h_ => h_)); have m1_ := xm (Kd.R_kept F12.out hk_ (fun _ _ h_ => h_)); have m2_ := xm (Kd.S_kept F18.out hk_ (fun _ _ h_ => h_)); have m3_ := xm (Kd.R_kept F24.out hk_ (fun _ _ h_ => h_)); have m4_ := xm (Kd.R_kept F31.out hk_ (fun _ _ h_ => h_)); have m5_ := xm (Kd.R_kept F38.out hk_ (fun _ _ h_ => h_)); have m6_ := xm (Kd.R_kept F44.out hk_ (fun _ _ h_ => h_)); have m7_ := xm (Kd.S_kept F50.out hk_ (fun _ _ h_ => h_)); have m8_ := xm (Kd.R_kept F56.out hk_ (fun _ _ h_ => h_)); have m9_ := xm (Kd.R_kept F66.out hk_ (fun _ _ h_ => h_)); have m10_ := xm (blk_kept BKg1.out hk_ (fun h_ => h_)); have m11_ := xm (blk_kept BKg62.out hk_ (fun h_ => h_)); clear F6 F12 F18 F24 F31 F38 F44 F50 F56 F66 BKg1 BKg62; have F6 := m0_; have F12 := m1_; have F18 := m2_; have F24 := m3_; have F31 := m4_; have F38 := m5_; have F44 := m6_; have F50 := m7_; have F56 := m8_; have F66 := m9_; have BKg1 := m10_; have BKg62 := m11_; clear m0_ m1_ m2_ m3_ m4_ m5_ m6_ m7_ m8_ m9_ m10_ m11_; have m0_ := xm (below_step (w := w) HB.out hb_); clear HB; have HB := m0_; clear m0_ hb_ hk_; clear hcg1_0 hfg1_0 hcg1_1 hfg1_1 hcg1_2 hfg1_2 hcg1_3 hfg1_3 hcg1_4 hfg1_4 hcg1_5 hfg1_5 hcg1_6 hfg1_6; obtain ⟨hcg1_0, hfg1_0, hcg1_1, hfg1_1, hcg1_2, hfg1_2, hcg1_3, hfg1_3, hcg1_4, hfg1_4, hcg1_5, hfg1_5, hcg1_6, hfg1_6⟩ := laws_FnExactOutOf.cs7 BKg1.out; clear hcg62_0 hfg62_0 hcg62_1 hfg62_1 hcg62_2 hfg62_2 hcg62_3 hfg62_3 hcg62_4 hfg62_4 hcg62_5 hfg62_5 hcg62_6 hfg62_6; obtain ⟨hcg62_0, hfg62_0, hcg62_1, hfg62_1, hcg62_2, hfg62_2, hcg62_3, hfg62_3, hcg62_4, hfg62_4, hcg62_5, hfg62_5, hcg62_6, hfg62_6⟩ := laws_FnExactOutOf.cs7 BKg62.out))
 have hk_ := Kept.drew (Kept.refl w9_ (fun _ => False))
 have m0_ := xm (Kd.R_kept F6.out hk_ (fun _ _ h_ => h_))
 have m1_ := xm (Kd.R_kept F12.out hk_ (fun _ _ h_ => h_))
 have m2_ := xm (Kd.S_kept F18.out hk_ (fun _ _ h_ => h_))
 have m3_ := xm (Kd.R_kept F24.out hk_ (fun _ _ h_ => h_))
 have m4_ := xm (Kd.R_kept F31.out hk_ (fun _ _ h_ => h_))
 have m5_ := xm (Kd.R_kept F38.out hk_ (fun _ _ h_ => h_))
 have m6_ := xm (Kd.R_kept F44.out hk_ (fun _ _ h_ => h_))
 have m7_ := xm (Kd.S_kept F50.out hk_ (fun _ _ h_ => h_))
 have m8_ := xm (Kd.R_kept F56.out hk_ (fun _ _ h_ => h_))
 have m9_ := xm (Kd.R_kept F66.out hk_ (fun _ _ h_ => h_))
 have m10_ := xm (blk_kept BKg1.out hk_ (fun h_ => h_))
 have m11_ := xm (blk_kept BKg62.out hk_ (fun h_ => h_))
 clear F6 F12 F18 F24 F31 F38 F44 F50 F56 F66 BKg1 BKg62
 have F6 := m0_
 have F12 := m1_
 have F18 := m2_
 have F24 := m3_
 have F31 := m4_
 have F38 := m5_
 have F44 := m6_
 have F50 := m7_
 have F56 := m8_
 have F66 := m9_
 have BKg1 := m10_
 have BKg62 := m11_
 clear m0_ m1_ m2_ m3_ m4_ m5_ m6_ m7_ m8_ m9_ m10_ m11_
 have m0_ := xm (xd HB.out)
 clear HB hk_
 have HB := m0_
 clear m0_
 have Z10 : Aside0 (w9_.heap.size ≤ w9_.drew.heap.size) := xm (Nat.le_refl _)
 refine start_ (n := 5) (S := fun w' => w'.cell? ⟨g62, 0, none⟩ = some (.slice A39 t37_0.length c40) ∧ w'.cell? ⟨g62, 1, none⟩ = some (.int .i64 t37_1) ∧ w'.cell? ⟨g62, 2, none⟩ = some (.slice A45 t37_2.length c46) ∧ w'.cell? ⟨g62, 3, none⟩ = some (.slice A51 t37_3.length c52) ∧ w'.cell? ⟨g62, 4, none⟩ = some (.slice A57 t37_4.length c58) ∧ w'.cell? ⟨g62, 5, none⟩ = some (.int .i64 t37_5) ∧ w'.cell? ⟨g62, 6, none⟩ = some (.int .i64 t37_6) ∧ w'.cell? ⟨g1, 0, none⟩ = some (.slice A0_0 l0_0.length c0_0) ∧ w'.cell? ⟨g1, 1, none⟩ = some (.int .i64 a0_1) ∧ w'.cell? ⟨g1, 2, none⟩ = some (.slice A0_2 l0_2.length c0_2) ∧ w'.cell? ⟨g1, 3, none⟩ = some (.slice A0_3 l0_3.length c0_3) ∧ w'.cell? ⟨g1, 4, none⟩ = some (.slice A0_4 l0_4.length c0_4) ∧ w'.cell? ⟨g1, 5, none⟩ = some (.int .i64 a0_5) ∧ w'.cell? ⟨g1, 6, none⟩ = some (.int .i64 a0_6)) (ds := []) #[false, false, false, false, false] (by kernel_rfl) rfl rfl ⟨(xc BKg62.out 0).trans rfl, (xc BKg62.out 1).trans rfl, (xc BKg62.out 2).trans rfl, (xc BKg62.out 3).trans rfl, (xc BKg62.out 4).trans rfl, (xc BKg62.out 5).trans rfl, (xc BKg62.out 6).trans rfl, (xc BKg1.out 0).trans rfl, (xc BKg1.out 1).trans rfl, (xc BKg1.out 2).trans rfl, (xc BKg1.out 3).trans rfl, (xc BKg1.out 4).trans rfl, (xc BKg1.out 5).trans rfl, (xc BKg1.out 6).trans rfl⟩ (fun hHeld => ?_)
 generalize w9_.drew = w10_ at F6 F12 F18 F24 F31 F38 F44 F50 F56 F66 BKg1 BKg62 Z10 HB hHeld ⊢
 refine take_ (i := 0) (N := some 51) (v := ?_) (a' := ?_) #[true, false, false, false, false] rfl rfl (by kernel_rfl) (fun _ _ _ h => h) (Or.inl ⟨by rfl, ?_⟩) hHeld ?_ ?_
 rotate_left
 ·rintro w' ⟨s0, s1, s2, s3, s4, s5, s6, s7, s8, s9, s10, s11, s12, s13⟩
  go_simp
  with_reducible rfl
 rotate_left
 ·simp only [Act.put, xi, xj, xk, i64_w, i32_w]
  rfl
 refine take_ (i := 1) (N := some 52) (v := ?_) (a' := ?_) #[true, true, false, false, false] rfl rfl (by kernel_rfl) (fun _ _ _ h => h) (Or.inl ⟨by rfl, ?_⟩) hHeld ?_ ?_
 rotate_left
 ·rintro w' ⟨s0, s1, s2, s3, s4, s5, s6, s7, s8, s9, s10, s11, s12, s13⟩
  go_simp
  with_reducible rfl
 rotate_left
 ·simp only [Act.put, xi, xj, xk, i64_w, i32_w]
  rfl
 refine one_ (i := 2) (N := some 53) #[true, true, true, false, false] rfl rfl (by kernel_rfl) (by decide) (fun K hK => ?_)
 refine goes_ Try.func47 (by kernel_rfl) rfl #[.agg #[.slice A0_0 l0_0.length c0_0, .int .i64 a0_1, .slice A0_2 l0_2.length c0_2, .slice A0_3 l0_3.length c0_3, .slice A0_4 l0_4.length c0_4, .int .i64 a0_5, .int .i64 a0_6]] (by rfl) rfl rfl (by (try simp only [List.map_toArray, List.map_cons, List.map_nil]); first | done | rfl) ?_
 refine (laws_toSink.calls k _ _ l0_0 a0_1 _ _ l0_2 _ _ l0_3 _ _ l0_4 a0_5 a0_6 t76_0 t76_1 t76_2 t76_3 t76_4 t76_5 t76_6 _ (Kd.C_below HR0_0.out HB.out) HC0_0.out (Kd.C_below HR0_2.out HB.out) HC0_2.out (Kd.C_below HR0_3.out HB.out) HC0_3.out (Kd.C_below HR0_4.out HB.out) HC0_4.out t76A.out).mono ?_
 rintro e w11_ ⟨v0_, v2_, v3_, v4_, rfl, h0_, h1_, h2_, h3_, hb_⟩
 refine ⟨_, rfl, ?_⟩
 have Z11 := xm (hb_.size : w10_.heap.size ≤ w11_.heap.size)
 have hk_ := Kept.of_below hb_ (fun _ => False)
 obtain ⟨A78, c79, rfl⟩ := Kd.R_slice h0_
 obtain ⟨A84, c85, rfl⟩ := Kd.R_slice h1_
 obtain ⟨A90, c91, rfl⟩ := Kd.S_slice h2_
 obtain ⟨A96, c97, rfl⟩ := Kd.R_slice h3_
 obtain ⟨P80, p1_, p2_, p3_⟩ := hideT (base := w.heap.size) rfl h0_ (szOf (w := w) HB.out)
 have F77 := xm p1_
 have B81 : Aside0 (∀ k_, P80 k_ → w10_.heap.size ≤ k_ ∧ k_ < w11_.heap.size) := xm p2_
 have T82 := xm p3_
 clear p1_ p2_ p3_
 obtain ⟨P86, p1_, p2_, p3_⟩ := hideT (base := w.heap.size) rfl h1_ (szOf (w := w) HB.out)
 have F83 := xm p1_
 have B87 : Aside0 (∀ k_, P86 k_ → w10_.heap.size ≤ k_ ∧ k_ < w11_.heap.size) := xm p2_
 have T88 := xm p3_
 clear p1_ p2_ p3_
 obtain ⟨P92, p1_, p2_, p3_⟩ := hideS (base := w.heap.size) h2_ (szOf (w := w) HB.out)
 have F89 := xm p1_
 have B93 : Aside0 (∀ k_, P92 k_ → w10_.heap.size ≤ k_ ∧ k_ < w11_.heap.size) := xm p2_
 have T94 := xm p3_
 clear p1_ p2_ p3_
 obtain ⟨P98, p1_, p2_, p3_⟩ := hideT (base := w.heap.size) rfl h3_ (szOf (w := w) HB.out)
 have F95 := xm p1_
 have B99 : Aside0 (∀ k_, P98 k_ → w10_.heap.size ≤ k_ ∧ k_ < w11_.heap.size) := xm p2_
 have T100 := xm p3_
 clear p1_ p2_ p3_
 have m0_ := xm (Kd.R_kept F6.out hk_ (fun _ _ h_ => h_))
 have m1_ := xm (Kd.R_kept F12.out hk_ (fun _ _ h_ => h_))
 have m2_ := xm (Kd.S_kept F18.out hk_ (fun _ _ h_ => h_))
 have m3_ := xm (Kd.R_kept F24.out hk_ (fun _ _ h_ => h_))
 have m4_ := xm (Kd.R_kept F31.out hk_ (fun _ _ h_ => h_))
 have m5_ := xm (Kd.R_kept F38.out hk_ (fun _ _ h_ => h_))
 have m6_ := xm (Kd.R_kept F44.out hk_ (fun _ _ h_ => h_))
 have m7_ := xm (Kd.S_kept F50.out hk_ (fun _ _ h_ => h_))
 have m8_ := xm (Kd.R_kept F56.out hk_ (fun _ _ h_ => h_))
 have m9_ := xm (Kd.R_kept F66.out hk_ (fun _ _ h_ => h_))
 have m10_ := xm (blk_kept BKg1.out hk_ (fun h_ => h_))
 have m11_ := xm (blk_kept BKg62.out hk_ (fun h_ => h_))
 clear F6 F12 F18 F24 F31 F38 F44 F50 F56 F66 BKg1 BKg62
 have F6 := m0_
 have F12 := m1_
 have F18 := m2_
 have F24 := m3_
 have F31 := m4_
 have F38 := m5_
 have F44 := m6_
 have F50 := m7_
 have F56 := m8_
 have F66 := m9_
 have BKg1 := m10_
 have BKg62 := m11_
 clear m0_ m1_ m2_ m3_ m4_ m5_ m6_ m7_ m8_ m9_ m10_ m11_
 have m0_ := xm (below_step (w := w) HB.out hb_)
 clear HB
 have HB := m0_
 clear m0_ hb_ hk_ h0_ h1_ h2_ h3_
 refine hK.out _ _ ⟨(xc BKg62.out 0).trans rfl, (xc BKg62.out 1).trans rfl, (xc BKg62.out 2).trans rfl, (xc BKg62.out 3).trans rfl, (xc BKg62.out 4).trans rfl, (xc BKg62.out 5).trans rfl, (xc BKg62.out 6).trans rfl, (xc BKg1.out 0).trans rfl, (xc BKg1.out 1).trans rfl, (xc BKg1.out 2).trans rfl, (xc BKg1.out 3).trans rfl, (xc BKg1.out 4).trans rfl, (xc BKg1.out 5).trans rfl, (xc BKg1.out 6).trans rfl⟩ (fun hHeld => ?_)
 clear hK K
 refine norm_ (a' := ?_) ?_ ?_
 rotate_left
 ·show Act.put _ (some 53) _ = _
  simp only [Act.put, xi, xj, xk, i64_w, i32_w]
  rfl
 refine one_ (i := 3) (N := some 54) #[true, true, true, true, false] rfl rfl (by kernel_rfl) (by decide) (fun K hK => ?_)
 refine goes_ Try.func28 (by kernel_rfl) rfl #[.agg #[.slice A39 t37_0.length c40, .int .i64 t37_1, .slice A45 t37_2.length c46, .slice A51 t37_3.length c52, .slice A57 t37_4.length c58, .int .i64 t37_5, .int .i64 t37_6], .agg #[.slice A78 t76_0.length c79, .int .i64 t76_1, .slice A84 t76_2.length c85, .slice A90 t76_3.length c91, .slice A96 t76_4.length c97, .int .i64 t76_5, .int .i64 t76_6]] (by rfl) rfl rfl (by (try simp only [List.map_toArray, List.map_cons, List.map_nil]); first | done | rfl) ?_
 refine (laws_eqSink.calls k _ _ t37_0 t37_1 _ _ t37_2 _ _ t37_3 _ _ t37_4 t37_5 t37_6 _ _ t76_0 t76_1 _ _ t76_2 _ _ t76_3 _ _ t76_4 t76_5 t76_6 true _ (Kd.R_reads' F38.out).2.2 (Kd.R_reads' F38.out).2.1 (Kd.R_reads' F44.out).2.2 (Kd.R_reads' F44.out).2.1 (Kd.S_reads' F50.out).2.2 (Kd.S_reads' F50.out).2.1 (Kd.R_reads' F56.out).2.2 (Kd.R_reads' F56.out).2.1 (Kd.R_reads' F77.out).2.2 (Kd.R_reads' F77.out).2.1 (Kd.R_reads' F83.out).2.2 (Kd.R_reads' F83.out).2.1 (Kd.S_reads' F89.out).2.2 (Kd.S_reads' F89.out).2.1 (Kd.R_reads' F95.out).2.2 (Kd.R_reads' F95.out).2.1 t101A.out).mono ?_
 rintro e w12_ ⟨rfl, hb_⟩
 refine ⟨_, rfl, ?_⟩
 have Z12 := xm (hb_.size : w11_.heap.size ≤ w12_.heap.size)
 have hk_ := Kept.of_below hb_ (fun _ => False)
 have m0_ := xm (Kd.R_kept F6.out hk_ (fun _ _ h_ => h_))
 have m1_ := xm (Kd.R_kept F12.out hk_ (fun _ _ h_ => h_))
 have m2_ := xm (Kd.S_kept F18.out hk_ (fun _ _ h_ => h_))
 have m3_ := xm (Kd.R_kept F24.out hk_ (fun _ _ h_ => h_))
 have m4_ := xm (Kd.R_kept F31.out hk_ (fun _ _ h_ => h_))
 have m5_ := xm (Kd.R_kept F38.out hk_ (fun _ _ h_ => h_))
 have m6_ := xm (Kd.R_kept F44.out hk_ (fun _ _ h_ => h_))
 have m7_ := xm (Kd.S_kept F50.out hk_ (fun _ _ h_ => h_))
 have m8_ := xm (Kd.R_kept F56.out hk_ (fun _ _ h_ => h_))
 have m9_ := xm (Kd.R_kept F66.out hk_ (fun _ _ h_ => h_))
 have m10_ := xm (Kd.R_kept F77.out hk_ (fun _ _ h_ => h_))
 have m11_ := xm (Kd.R_kept F83.out hk_ (fun _ _ h_ => h_))
 have m12_ := xm (Kd.S_kept F89.out hk_ (fun _ _ h_ => h_))
 have m13_ := xm (Kd.R_kept F95.out hk_ (fun _ _ h_ => h_))
 have m14_ := xm (blk_kept BKg1.out hk_ (fun h_ => h_))
 have m15_ := xm (blk_kept BKg62.out hk_ (fun h_ => h_))
 clear F6 F12 F18 F24 F31 F38 F44 F50 F56 F66 F77 F83 F89 F95 BKg1 BKg62
 have F6 := m0_
 have F12 := m1_
 have F18 := m2_
 have F24 := m3_
 have F31 := m4_
 have F38 := m5_
 have F44 := m6_
 have F50 := m7_
 have F56 := m8_
 have F66 := m9_
 have F77 := m10_
 have F83 := m11_
 have F89 := m12_
 have F95 := m13_
 have BKg1 := m14_
 have BKg62 := m15_
 clear m0_ m1_ m2_ m3_ m4_ m5_ m6_ m7_ m8_ m9_ m10_ m11_ m12_ m13_ m14_ m15_
 have m0_ := xm (below_step (w := w) HB.out hb_)
 clear HB
 have HB := m0_
 clear m0_ hb_ hk_
 refine hK.out _ _ ⟨(xc BKg62.out 0).trans rfl, (xc BKg62.out 1).trans rfl, (xc BKg62.out 2).trans rfl, (xc BKg62.out 3).trans rfl, (xc BKg62.out 4).trans rfl, (xc BKg62.out 5).trans rfl, (xc BKg62.out 6).trans rfl, (xc BKg1.out 0).trans rfl, (xc BKg1.out 1).trans rfl, (xc BKg1.out 2).trans rfl, (xc BKg1.out 3).trans rfl, (xc BKg1.out 4).trans rfl, (xc BKg1.out 5).trans rfl, (xc BKg1.out 6).trans rfl⟩ (fun hHeld => ?_)
 clear hK K
 refine norm_ (a' := ?_) ?_ ?_
 rotate_left
 ·show Act.put _ (some 54) _ = _
  simp only [Act.put, xi, xj, xk, i64_w, i32_w]
  rfl
 refine pure_ (i := 4) (N := some 55) (v := ?_) (a' := ?_) #[true, true, true, true, true] rfl rfl (by kernel_rfl) (fun _ _ _ h => h) (Or.inl ⟨by rfl, ?_⟩) ?_ ?_
 rotate_left
 ·intro w'
  go_simp
  with_reducible rfl
 rotate_left
 ·simp only [Act.put, xi, xj, xk, i64_w, i32_w]
  rfl
 refine done_ (by kernel_rfl) ?_
 clear hcg1_0 hfg1_0 hcg1_1 hfg1_1 hcg1_2 hfg1_2 hcg1_3 hfg1_3 hcg1_4 hfg1_4 hcg1_5 hfg1_5 hcg1_6 hfg1_6
 obtain ⟨hcg1_0, hfg1_0, hcg1_1, hfg1_1, hcg1_2, hfg1_2, hcg1_3, hfg1_3, hcg1_4, hfg1_4, hcg1_5, hfg1_5, hcg1_6, hfg1_6⟩ := laws_FnExactOutOf.cs7 BKg1.out
 clear hcg62_0 hfg62_0 hcg62_1 hfg62_1 hcg62_2 hfg62_2 hcg62_3 hfg62_3 hcg62_4 hfg62_4 hcg62_5 hfg62_5 hcg62_6 hfg62_6
 obtain ⟨hcg62_0, hfg62_0, hcg62_1, hfg62_1, hcg62_2, hfg62_2, hcg62_3, hfg62_3, hcg62_4, hfg62_4, hcg62_5, hfg62_5, hcg62_6, hfg62_6⟩ := laws_FnExactOutOf.cs7 BKg62.out
 go_wp2_with (first
  | ((with_reducible refine gate_callee (f := 31) rfl ?_); refine goesL_ (some 58) rfl rfl Try.func31 (by kernel_rfl) rfl #[.agg #[.slice A39 t37_0.length c40, .int .i64 t37_1, .slice A45 t37_2.length c46, .slice A51 t37_3.length c52, .slice A57 t37_4.length c58, .int .i64 t37_5, .int .i64 t37_6], .int .i64 1] rfl (by (try simp only [List.map_toArray, List.map_cons, List.map_nil]); first | done | rfl) ?_; refine (laws_markSink.calls k P41 (.slice A39 t37_0.length c40) t37_0 t37_1 P47 (.slice A45 t37_2.length c46) t37_2 P53 (.slice A51 t37_3.length c52) t37_3 P59 (.slice A57 t37_4.length c58) t37_4 t37_5 t37_6 1 t103_0 t103_1 t103_2 t103_3 t103_4 w _ HB.out F38.out F44.out F50.out F56.out (fun k_ h_ h2_ => absurd (T43.out k_ h_).1 (by have z_ := (T49.out k_ h2_).2; first | exact z_ | exact z_.1 | exact z_.2 | exact z_.2.1 | exact z_.2.2 | exact z_.2.2.1 | exact z_.2.2.2 | exact z_.2.2.2.1 | exact z_.2.2.2.2 | exact z_.2.2.2.2.1 | exact z_.2.2.2.2.2 | exact z_.2.2.2.2.2.1 | exact z_.2.2.2.2.2.2)) (fun k_ h_ h2_ => absurd (T43.out k_ h_).1 (by have z_ := T55.out k_ h2_; first | exact z_ | exact z_.1 | exact z_.2 | exact z_.2.1 | exact z_.2.2 | exact z_.2.2.1 | exact z_.2.2.2 | exact z_.2.2.2.1 | exact z_.2.2.2.2 | exact z_.2.2.2.2.1 | exact z_.2.2.2.2.2 | exact z_.2.2.2.2.2.1 | exact z_.2.2.2.2.2.2)) (fun k_ h_ h2_ => absurd (T43.out k_ h_).1 (by have z_ := (T61.out k_ h2_).2; first | exact z_ | exact z_.1 | exact z_.2 | exact z_.2.1 | exact z_.2.2 | exact z_.2.2.1 | exact z_.2.2.2 | exact z_.2.2.2.1 | exact z_.2.2.2.2 | exact z_.2.2.2.2.1 | exact z_.2.2.2.2.2 | exact z_.2.2.2.2.2.1 | exact z_.2.2.2.2.2.2)) (fun k_ h_ h2_ => absurd (T49.out k_ h_).1 (by have z_ := T55.out k_ h2_; first | exact z_ | exact z_.1 | exact z_.2 | exact z_.2.1 | exact z_.2.2 | exact z_.2.2.1 | exact z_.2.2.2 | exact z_.2.2.2.1 | exact z_.2.2.2.2 | exact z_.2.2.2.2.1 | exact z_.2.2.2.2.2 | exact z_.2.2.2.2.2.1 | exact z_.2.2.2.2.2.2)) (fun k_ h_ h2_ => absurd (T49.out k_ h_).1 (by have z_ := (T61.out k_ h2_).2; first | exact z_ | exact z_.1 | exact z_.2 | exact z_.2.1 | exact z_.2.2 | exact z_.2.2.1 | exact z_.2.2.2 | exact z_.2.2.2.1 | exact z_.2.2.2.2 | exact z_.2.2.2.2.1 | exact z_.2.2.2.2.2 | exact z_.2.2.2.2.2.1 | exact z_.2.2.2.2.2.2)) (fun k_ h_ h2_ => absurd (T61.out k_ h2_).1 (by have z_ := T55.out k_ h_; first | exact z_ | exact z_.1 | exact z_.2 | exact z_.2.1 | exact z_.2.2 | exact z_.2.2.1 | exact z_.2.2.2 | exact z_.2.2.2.1 | exact z_.2.2.2.2 | exact z_.2.2.2.2.1 | exact z_.2.2.2.2.2 | exact z_.2.2.2.2.2.1 | exact z_.2.2.2.2.2.2)) t103A.out).mono ?_; rintro e w13_ ⟨rfl, h0_, h1_, h2_, h3_, hb_, hkp_⟩; refine ⟨_, rfl, ?_⟩; have Z13 := xm (hkp_.1 : w12_.heap.size ≤ w13_.heap.size); have hk2_ := Kept.mono hkp_ (S' := fun k_ => w4_.heap.size ≤ k_ ∧ k_ < w5_.heap.size) (fun k_ h_ => by rcases h_ with h_ | h_ | h_ | h_ <;> first | exact B42.out k_ h_ | exact B48.out k_ h_ | exact B54.out k_ h_ | exact B60.out k_ h_); have yF38 := xm (Kd.R_reok rfl h0_ (fun k_ e_ => F38.out.1 k_ e_)); have yF44 := xm (Kd.R_reok rfl h1_ (fun k_ e_ => F44.out.1 k_ e_)); have yF50 := xm h2_; have yF56 := xm (Kd.R_reok rfl h3_ (fun k_ e_ => F56.out.1 k_ e_)); have m0_ := xm (Kd.R_kept F6.out hk2_ (fun k_ h_ h2_ => by have u1_ := B10.out k_ h_; have u2_ : w4_.heap.size ≤ k_ ∧ k_ < w5_.heap.size := h2_; have := Z4.out; omega)); have m1_ := xm (Kd.R_kept F12.out hk2_ (fun k_ h_ h2_ => by have u1_ := B16.out k_ h_; have u2_ : w4_.heap.size ≤ k_ ∧ k_ < w5_.heap.size := h2_; have := Z4.out; omega)); have m2_ := xm (Kd.S_kept F18.out hk2_ (fun k_ h_ h2_ => by have u1_ := B22.out k_ h_; have u2_ : w4_.heap.size ≤ k_ ∧ k_ < w5_.heap.size := h2_; have := Z4.out; omega)); have m3_ := xm (Kd.R_kept F24.out hk2_ (fun k_ h_ h2_ => by have u1_ := B28.out k_ h_; have u2_ : w4_.heap.size ≤ k_ ∧ k_ < w5_.heap.size := h2_; have := Z4.out; omega)); have m4_ := xm (Kd.R_kept F31.out hk2_ (fun k_ h_ h2_ => by have u1_ := B35.out k_ h_; have u2_ : w4_.heap.size ≤ k_ ∧ k_ < w5_.heap.size := h2_; omega)); have m5_ := xm (Kd.R_kept F66.out hk2_ (fun k_ h_ h2_ => by have u1_ := B70.out k_ h_; have u2_ : w4_.heap.size ≤ k_ ∧ k_ < w5_.heap.size := h2_; have := Z6.out; have := Z7.out; omega)); have m6_ := xm (Kd.R_kept F77.out hk2_ (fun k_ h_ h2_ => by have u1_ := B81.out k_ h_; have u2_ : w4_.heap.size ≤ k_ ∧ k_ < w5_.heap.size := h2_; have := Z6.out; have := Z7.out; have := Z8.out; have := Z9.out; have := Z10.out; omega)); have m7_ := xm (Kd.R_kept F83.out hk2_ (fun k_ h_ h2_ => by have u1_ := B87.out k_ h_; have u2_ : w4_.heap.size ≤ k_ ∧ k_ < w5_.heap.size := h2_; have := Z6.out; have := Z7.out; have := Z8.out; have := Z9.out; have := Z10.out; omega)); have m8_ := xm (Kd.S_kept F89.out hk2_ (fun k_ h_ h2_ => by have u1_ := B93.out k_ h_; have u2_ : w4_.heap.size ≤ k_ ∧ k_ < w5_.heap.size := h2_; have := Z6.out; have := Z7.out; have := Z8.out; have := Z9.out; have := Z10.out; omega)); have m9_ := xm (Kd.R_kept F95.out hk2_ (fun k_ h_ h2_ => by have u1_ := B99.out k_ h_; have u2_ : w4_.heap.size ≤ k_ ∧ k_ < w5_.heap.size := h2_; have := Z6.out; have := Z7.out; have := Z8.out; have := Z9.out; have := Z10.out; omega)); have m10_ := xm (blk_kept BKg1.out hk2_ (fun h2_ => by have u1_ := GBg1.out; have u2_ : w4_.heap.size ≤ g1 ∧ g1 < w5_.heap.size := h2_; have := Z2.out; have := Z3.out; have := Z4.out; omega)); have m11_ := xm (blk_kept BKg62.out hk2_ (fun h2_ => by have u1_ := GBg62.out; have u2_ : w4_.heap.size ≤ g62 ∧ g62 < w5_.heap.size := h2_; omega)); clear F6 F12 F18 F24 F31 F66 F77 F83 F89 F95 BKg1 BKg62; have F6 := m0_; have F12 := m1_; have F18 := m2_; have F24 := m3_; have F31 := m4_; have F66 := m5_; have F77 := m6_; have F83 := m7_; have F89 := m8_; have F95 := m9_; have BKg1 := m10_; have BKg62 := m11_; clear m0_ m1_ m2_ m3_ m4_ m5_ m6_ m7_ m8_ m9_ m10_ m11_; clear F38 F44 F50 F56; have F38 := yF38; have F44 := yF44; have F50 := yF50; have F56 := yF56; clear yF38 yF44 yF50 yF56; clear HB; have HB := xm hb_; clear hb_ hkp_ hk2_ h0_ h1_ h2_ h3_; (try clear LEF38); have LEF38 := xm (Kd.R_reads' F38.out).1; (try clear LEF44); have LEF44 := xm (Kd.R_reads' F44.out).1; (try clear LEF50); have LEF50 := xm (Kd.S_reads' F50.out).1; (try clear LEF56); have LEF56 := xm (Kd.R_reads' F56.out).1; clear hcg1_0 hfg1_0 hcg1_1 hfg1_1 hcg1_2 hfg1_2 hcg1_3 hfg1_3 hcg1_4 hfg1_4 hcg1_5 hfg1_5 hcg1_6 hfg1_6; obtain ⟨hcg1_0, hfg1_0, hcg1_1, hfg1_1, hcg1_2, hfg1_2, hcg1_3, hfg1_3, hcg1_4, hfg1_4, hcg1_5, hfg1_5, hcg1_6, hfg1_6⟩ := laws_FnExactOutOf.cs7 BKg1.out; clear hcg62_0 hfg62_0 hcg62_1 hfg62_1 hcg62_2 hfg62_2 hcg62_3 hfg62_3 hcg62_4 hfg62_4 hcg62_5 hfg62_5 hcg62_6 hfg62_6; obtain ⟨hcg62_0, hfg62_0, hcg62_1, hfg62_1, hcg62_2, hfg62_2, hcg62_3, hfg62_3, hcg62_4, hfg62_4, hcg62_5, hfg62_5, hcg62_6, hfg62_6⟩ := laws_FnExactOutOf.cs7 BKg62.out)
  | ((with_reducible refine gate_callee (f := 30) rfl ?_); refine goesL_ (some 79) rfl rfl Try.func30 (by kernel_rfl) rfl #[.slice A67 t65_0.length c68, .int .i64 1] rfl (by (try simp only [List.map_toArray, List.map_cons, List.map_nil]); first | done | rfl) ?_; refine (laws_markIntS.calls k P69 (.slice A67 t65_0.length c68) t65_0 1 t109_0 t109_1 w _ HB.out F66.out t109A.out).mono ?_; rintro e w15_ ⟨rfl, h0_, hb_, hkp_⟩; refine ⟨_, rfl, ?_⟩; have Z15 := xm (hkp_.1 : w14_.heap.size ≤ w15_.heap.size); have hk2_ := Kept.mono hkp_ (S' := fun k_ => w7_.heap.size ≤ k_ ∧ k_ < w8_.heap.size) (fun k_ h_ => by exact B70.out k_ h_); have yF66 := xm (Kd.R_reok rfl h0_ (fun k_ e_ => F66.out.1 k_ e_)); have m0_ := xm (Kd.R_kept F6.out hk2_ (fun k_ h_ h2_ => by have u1_ := B10.out k_ h_; have u2_ : w7_.heap.size ≤ k_ ∧ k_ < w8_.heap.size := h2_; have := Z4.out; have := Z5.out; have := Z6.out; have := Z7.out; omega)); have m1_ := xm (Kd.R_kept F12.out hk2_ (fun k_ h_ h2_ => by have u1_ := B16.out k_ h_; have u2_ : w7_.heap.size ≤ k_ ∧ k_ < w8_.heap.size := h2_; have := Z4.out; have := Z5.out; have := Z6.out; have := Z7.out; omega)); have m2_ := xm (Kd.S_kept F18.out hk2_ (fun k_ h_ h2_ => by have u1_ := B22.out k_ h_; have u2_ : w7_.heap.size ≤ k_ ∧ k_ < w8_.heap.size := h2_; have := Z4.out; have := Z5.out; have := Z6.out; have := Z7.out; omega)); have m3_ := xm (Kd.R_kept F24.out hk2_ (fun k_ h_ h2_ => by have u1_ := B28.out k_ h_; have u2_ : w7_.heap.size ≤ k_ ∧ k_ < w8_.heap.size := h2_; have := Z4.out; have := Z5.out; have := Z6.out; have := Z7.out; omega)); have m4_ := xm (Kd.R_kept F31.out hk2_ (fun k_ h_ h2_ => by have u1_ := B35.out k_ h_; have u2_ : w7_.heap.size ≤ k_ ∧ k_ < w8_.heap.size := h2_; have := Z5.out; have := Z6.out; have := Z7.out; omega)); have m5_ := xm (Kd.R_kept F38.out hk2_ (fun k_ h_ h2_ => by have u1_ := B42.out k_ h_; have u2_ : w7_.heap.size ≤ k_ ∧ k_ < w8_.heap.size := h2_; have := Z6.out; have := Z7.out; omega)); have m6_ := xm (Kd.R_kept F44.out hk2_ (fun k_ h_ h2_ => by have u1_ := B48.out k_ h_; have u2_ : w7_.heap.size ≤ k_ ∧ k_ < w8_.heap.size := h2_; have := Z6.out; have := Z7.out; omega)); have m7_ := xm (Kd.S_kept F50.out hk2_ (fun k_ h_ h2_ => by have u1_ := B54.out k_ h_; have u2_ : w7_.heap.size ≤ k_ ∧ k_ < w8_.heap.size := h2_; have := Z6.out; have := Z7.out; omega)); have m8_ := xm (Kd.R_kept F56.out hk2_ (fun k_ h_ h2_ => by have u1_ := B60.out k_ h_; have u2_ : w7_.heap.size ≤ k_ ∧ k_ < w8_.heap.size := h2_; have := Z6.out; have := Z7.out; omega)); have m9_ := xm (Kd.R_kept F77.out hk2_ (fun k_ h_ h2_ => by have u1_ := B81.out k_ h_; have u2_ : w7_.heap.size ≤ k_ ∧ k_ < w8_.heap.size := h2_; have := Z9.out; have := Z10.out; omega)); have m10_ := xm (Kd.R_kept F83.out hk2_ (fun k_ h_ h2_ => by have u1_ := B87.out k_ h_; have u2_ : w7_.heap.size ≤ k_ ∧ k_ < w8_.heap.size := h2_; have := Z9.out; have := Z10.out; omega)); have m11_ := xm (Kd.S_kept F89.out hk2_ (fun k_ h_ h2_ => by have u1_ := B93.out k_ h_; have u2_ : w7_.heap.size ≤ k_ ∧ k_ < w8_.heap.size := h2_; have := Z9.out; have := Z10.out; omega)); have m12_ := xm (Kd.R_kept F95.out hk2_ (fun k_ h_ h2_ => by have u1_ := B99.out k_ h_; have u2_ : w7_.heap.size ≤ k_ ∧ k_ < w8_.heap.size := h2_; have := Z9.out; have := Z10.out; omega)); have m13_ := xm (blk_kept BKg1.out hk2_ (fun h2_ => by have u1_ := GBg1.out; have u2_ : w7_.heap.size ≤ g1 ∧ g1 < w8_.heap.size := h2_; have := Z2.out; have := Z3.out; have := Z4.out; have := Z5.out; have := Z6.out; have := Z7.out; omega)); have m14_ := xm (blk_kept BKg62.out hk2_ (fun h2_ => by have u1_ := GBg62.out; have u2_ : w7_.heap.size ≤ g62 ∧ g62 < w8_.heap.size := h2_; have := Z7.out; omega)); clear F6 F12 F18 F24 F31 F38 F44 F50 F56 F77 F83 F89 F95 BKg1 BKg62; have F6 := m0_; have F12 := m1_; have F18 := m2_; have F24 := m3_; have F31 := m4_; have F38 := m5_; have F44 := m6_; have F50 := m7_; have F56 := m8_; have F77 := m9_; have F83 := m10_; have F89 := m11_; have F95 := m12_; have BKg1 := m13_; have BKg62 := m14_; clear m0_ m1_ m2_ m3_ m4_ m5_ m6_ m7_ m8_ m9_ m10_ m11_ m12_ m13_ m14_; clear F66; have F66 := yF66; clear yF66; clear HB; have HB := xm hb_; clear hb_ hkp_ hk2_ h0_; (try clear LEF66); have LEF66 := xm (Kd.R_reads' F66.out).1; clear hcg1_0 hfg1_0 hcg1_1 hfg1_1 hcg1_2 hfg1_2 hcg1_3 hfg1_3 hcg1_4 hfg1_4 hcg1_5 hfg1_5 hcg1_6 hfg1_6; obtain ⟨hcg1_0, hfg1_0, hcg1_1, hfg1_1, hcg1_2, hfg1_2, hcg1_3, hfg1_3, hcg1_4, hfg1_4, hcg1_5, hfg1_5, hcg1_6, hfg1_6⟩ := laws_FnExactOutOf.cs7 BKg1.out; clear hcg62_0 hfg62_0 hcg62_1 hfg62_1 hcg62_2 hfg62_2 hcg62_3 hfg62_3 hcg62_4 hfg62_4 hcg62_5 hfg62_5 hcg62_6 hfg62_6; obtain ⟨hcg62_0, hfg62_0, hcg62_1, hfg62_1, hcg62_2, hfg62_2, hcg62_3, hfg62_3, hcg62_4, hfg62_4, hcg62_5, hfg62_5, hcg62_6, hfg62_6⟩ := laws_FnExactOutOf.cs7 BKg62.out)
  | ((with_reducible refine gate_callee (f := 62) rfl ?_); refine goesL_ (some 82) rfl rfl Try.func62 (by kernel_rfl) rfl #[.slice A67 t65_0.length c68, .int .i64 1] rfl (by (try simp only [List.map_toArray, List.map_cons, List.map_nil]); first | done | rfl) ?_; refine calls_of_args (args' := #[.slice A67 t109_1.length c68, .int .i64 1]) (by simp only [LEF66.out]) ?_; refine (laws_heldIntS.calls k _ _ t109_1 1 t110_0 _ (Kd.R_reads' F66.out).2.2 (by have z_ := Kd.R_reads' F66.out; have y_ := z_.1; have x_ := z_.2.1; omega) t110A.out).mono ?_; rintro e w16_ ⟨rfl, hb_⟩; refine ⟨_, rfl, ?_⟩; replace hb_ := hb_.below; have Z16 := xm (hb_.size : w15_.heap.size ≤ w16_.heap.size); have hk_ := Kept.of_below hb_ (fun _ => False); have m0_ := xm (Kd.R_kept F6.out hk_ (fun _ _ h_ => h_)); have m1_ := xm (Kd.R_kept F12.out hk_ (fun _ _ h_ => h_)); have m2_ := xm (Kd.S_kept F18.out hk_ (fun _ _ h_ => h_)); have m3_ := xm (Kd.R_kept F24.out hk_ (fun _ _ h_ => h_)); have m4_ := xm (Kd.R_kept F31.out hk_ (fun _ _ h_ => h_)); have m5_ := xm (Kd.R_kept F38.out hk_ (fun _ _ h_ => h_)); have m6_ := xm (Kd.R_kept F44.out hk_ (fun _ _ h_ => h_)); have m7_ := xm (Kd.S_kept F50.out hk_ (fun _ _ h_ => h_)); have m8_ := xm (Kd.R_kept F56.out hk_ (fun _ _ h_ => h_)); have m9_ := xm (Kd.R_kept F66.out hk_ (fun _ _ h_ => h_)); have m10_ := xm (Kd.R_kept F77.out hk_ (fun _ _ h_ => h_)); have m11_ := xm (Kd.R_kept F83.out hk_ (fun _ _ h_ => h_)); have m12_ := xm (Kd.S_kept F89.out hk_ (fun _ _ h_ => h_)); have m13_ := xm (Kd.R_kept F95.out hk_ (fun _ _ h_ => h_)); have m14_ := xm (blk_kept BKg1.out hk_ (fun h_ => h_)); have m15_ := xm (blk_kept BKg62.out hk_ (fun h_ => h_)); clear F6 F12 F18 F24 F31 F38 F44 F50 F56 F66 F77 F83 F89 F95 BKg1 BKg62; have F6 := m0_; have F12 := m1_; have F18 := m2_; have F24 := m3_; have F31 := m4_; have F38 := m5_; have F44 := m6_; have F50 := m7_; have F56 := m8_; have F66 := m9_; have F77 := m10_; have F83 := m11_; have F89 := m12_; have F95 := m13_; have BKg1 := m14_; have BKg62 := m15_; clear m0_ m1_ m2_ m3_ m4_ m5_ m6_ m7_ m8_ m9_ m10_ m11_ m12_ m13_ m14_ m15_; have m0_ := xm (below_step (w := w) HB.out hb_); clear HB; have HB := m0_; clear m0_ hb_ hk_; clear hcg1_0 hfg1_0 hcg1_1 hfg1_1 hcg1_2 hfg1_2 hcg1_3 hfg1_3 hcg1_4 hfg1_4 hcg1_5 hfg1_5 hcg1_6 hfg1_6; obtain ⟨hcg1_0, hfg1_0, hcg1_1, hfg1_1, hcg1_2, hfg1_2, hcg1_3, hfg1_3, hcg1_4, hfg1_4, hcg1_5, hfg1_5, hcg1_6, hfg1_6⟩ := laws_FnExactOutOf.cs7 BKg1.out; clear hcg62_0 hfg62_0 hcg62_1 hfg62_1 hcg62_2 hfg62_2 hcg62_3 hfg62_3 hcg62_4 hfg62_4 hcg62_5 hfg62_5 hcg62_6 hfg62_6; obtain ⟨hcg62_0, hfg62_0, hcg62_1, hfg62_1, hcg62_2, hfg62_2, hcg62_3, hfg62_3, hcg62_4, hfg62_4, hcg62_5, hfg62_5, hcg62_6, hfg62_6⟩ := laws_FnExactOutOf.cs7 BKg62.out)
  | ((with_reducible refine gate_callee (f := 47) rfl ?_); refine goesL_ (some 90) rfl rfl Try.func47 (by kernel_rfl) rfl #[.agg #[.slice A0_0 l0_0.length c0_0, .int .i64 a0_1, .slice A0_2 l0_2.length c0_2, .slice A0_3 l0_3.length c0_3, .slice A0_4 l0_4.length c0_4, .int .i64 a0_5, .int .i64 a0_6]] rfl (by (try simp only [List.map_toArray, List.map_cons, List.map_nil]); first | done | rfl) ?_; refine (laws_toSink.calls k _ _ l0_0 a0_1 _ _ l0_2 _ _ l0_3 _ _ l0_4 a0_5 a0_6 t113_0 t113_1 t113_2 t113_3 t113_4 t113_5 t113_6 _ (Kd.C_below HR0_0.out HB.out) HC0_0.out (Kd.C_below HR0_2.out HB.out) HC0_2.out (Kd.C_below HR0_3.out HB.out) HC0_3.out (Kd.C_below HR0_4.out HB.out) HC0_4.out t113A.out).mono ?_; rintro e w17_ ⟨v0_, v2_, v3_, v4_, rfl, h0_, h1_, h2_, h3_, hb_⟩; refine ⟨_, rfl, ?_⟩; have Z17 := xm (hb_.size : w16_.heap.size ≤ w17_.heap.size); have hk_ := Kept.of_below hb_ (fun _ => False); obtain ⟨A115, c116, rfl⟩ := Kd.R_slice h0_; obtain ⟨A121, c122, rfl⟩ := Kd.R_slice h1_; obtain ⟨A127, c128, rfl⟩ := Kd.S_slice h2_; obtain ⟨A133, c134, rfl⟩ := Kd.R_slice h3_; obtain ⟨P117, p1_, p2_, p3_⟩ := hideT (base := w.heap.size) rfl h0_ (szOf (w := w) HB.out); have F114 := xm p1_; have B118 : Aside0 (∀ k_, P117 k_ → w16_.heap.size ≤ k_ ∧ k_ < w17_.heap.size) := xm p2_; have T119 := xm p3_; clear p1_ p2_ p3_; obtain ⟨P123, p1_, p2_, p3_⟩ := hideT (base := w.heap.size) rfl h1_ (szOf (w := w) HB.out); have F120 := xm p1_; have B124 : Aside0 (∀ k_, P123 k_ → w16_.heap.size ≤ k_ ∧ k_ < w17_.heap.size) := xm p2_; have T125 := xm p3_; clear p1_ p2_ p3_; obtain ⟨P129, p1_, p2_, p3_⟩ := hideS (base := w.heap.size) h2_ (szOf (w := w) HB.out); have F126 := xm p1_; have B130 : Aside0 (∀ k_, P129 k_ → w16_.heap.size ≤ k_ ∧ k_ < w17_.heap.size) := xm p2_; have T131 := xm p3_; clear p1_ p2_ p3_; obtain ⟨P135, p1_, p2_, p3_⟩ := hideT (base := w.heap.size) rfl h3_ (szOf (w := w) HB.out); have F132 := xm p1_; have B136 : Aside0 (∀ k_, P135 k_ → w16_.heap.size ≤ k_ ∧ k_ < w17_.heap.size) := xm p2_; have T137 := xm p3_; clear p1_ p2_ p3_; have m0_ := xm (Kd.R_kept F6.out hk_ (fun _ _ h_ => h_)); have m1_ := xm (Kd.R_kept F12.out hk_ (fun _ _ h_ => h_)); have m2_ := xm (Kd.S_kept F18.out hk_ (fun _ _ h_ => h_)); have m3_ := xm (Kd.R_kept F24.out hk_ (fun _ _ h_ => h_)); have m4_ := xm (Kd.R_kept F31.out hk_ (fun _ _ h_ => h_)); have m5_ := xm (Kd.R_kept F38.out hk_ (fun _ _ h_ => h_)); have m6_ := xm (Kd.R_kept F44.out hk_ (fun _ _ h_ => h_)); have m7_ := xm (Kd.S_kept F50.out hk_ (fun _ _ h_ => h_)); have m8_ := xm (Kd.R_kept F56.out hk_ (fun _ _ h_ => h_)); have m9_ := xm (Kd.R_kept F66.out hk_ (fun _ _ h_ => h_)); have m10_ := xm (Kd.R_kept F77.out hk_ (fun _ _ h_ => h_)); have m11_ := xm (Kd.R_kept F83.out hk_ (fun _ _ h_ => h_)); have m12_ := xm (Kd.S_kept F89.out hk_ (fun _ _ h_ => h_)); have m13_ := xm (Kd.R_kept F95.out hk_ (fun _ _ h_ => h_)); have m14_ := xm (blk_kept BKg1.out hk_ (fun h_ => h_)); have m15_ := xm (blk_kept BKg62.out hk_ (fun h_ => h_)); clear F6 F12 F18 F24 F31 F38 F44 F50 F56 F66 F77 F83 F89 F95 BKg1 BKg62; have F6 := m0_; have F12 := m1_; have F18 := m2_; have F24 := m3_; have F31 := m4_; have F38 := m5_; have F44 := m6_; have F50 := m7_; have F56 := m8_; have F66 := m9_; have F77 := m10_; have F83 := m11_; have F89 := m12_; have F95 := m13_; have BKg1 := m14_; have BKg62 := m15_; clear m0_ m1_ m2_ m3_ m4_ m5_ m6_ m7_ m8_ m9_ m10_ m11_ m12_ m13_ m14_ m15_; have m0_ := xm (below_step (w := w) HB.out hb_); clear HB; have HB := m0_; clear m0_ hb_ hk_ h0_ h1_ h2_ h3_; clear hcg1_0 hfg1_0 hcg1_1 hfg1_1 hcg1_2 hfg1_2 hcg1_3 hfg1_3 hcg1_4 hfg1_4 hcg1_5 hfg1_5 hcg1_6 hfg1_6; obtain ⟨hcg1_0, hfg1_0, hcg1_1, hfg1_1, hcg1_2, hfg1_2, hcg1_3, hfg1_3, hcg1_4, hfg1_4, hcg1_5, hfg1_5, hcg1_6, hfg1_6⟩ := laws_FnExactOutOf.cs7 BKg1.out; clear hcg62_0 hfg62_0 hcg62_1 hfg62_1 hcg62_2 hfg62_2 hcg62_3 hfg62_3 hcg62_4 hfg62_4 hcg62_5 hfg62_5 hcg62_6 hfg62_6; obtain ⟨hcg62_0, hfg62_0, hcg62_1, hfg62_1, hcg62_2, hfg62_2, hcg62_3, hfg62_3, hcg62_4, hfg62_4, hcg62_5, hfg62_5, hcg62_6, hfg62_6⟩ := laws_FnExactOutOf.cs7 BKg62.out)
  | ((with_reducible refine gate_callee (f := 61) rfl ?_); refine goesL_ (some 91) rfl rfl Try.func61 (by kernel_rfl) rfl #[.agg #[.slice A115 t113_0.length c116, .int .i64 t113_1, .slice A121 t113_2.length c122, .slice A127 t113_3.length c128, .slice A133 t113_4.length c134, .int .i64 t113_5, .int .i64 t113_6]] rfl (by (try simp only [List.map_toArray, List.map_cons, List.map_nil]); first | done | rfl) ?_; refine (impl_OutOf.calls k _ _ t113_0 t113_1 _ _ t113_2 _ _ t113_3 _ _ t113_4 t113_5 t113_6 t138_0 t138_1 t138_2 _ (Kd.R_reads' F114.out).2.2 (Kd.R_reads' F114.out).2.1 (Kd.R_reads' F120.out).2.2 (Kd.R_reads' F120.out).2.1 (Kd.S_reads' F126.out).2.2 (Kd.S_reads' F126.out).2.1 (Kd.R_reads' F132.out).2.2 (Kd.R_reads' F132.out).2.1 t138A.out).mono ?_; rintro e w18_ ⟨v0_, rfl, h0_, hb_⟩; refine ⟨_, rfl, ?_⟩; have Z18 := xm (hb_.size : w17_.heap.size ≤ w18_.heap.size); have hk_ := Kept.of_below hb_ (fun _ => False); obtain ⟨A140, c141, rfl⟩ := Kd.R_slice h0_; obtain ⟨P142, p1_, p2_, p3_⟩ := hideT (base := w.heap.size) rfl h0_ (szOf (w := w) HB.out); have F139 := xm p1_; have B143 : Aside0 (∀ k_, P142 k_ → w17_.heap.size ≤ k_ ∧ k_ < w18_.heap.size) := xm p2_; have T144 := xm p3_; clear p1_ p2_ p3_; have m0_ := xm (Kd.R_kept F6.out hk_ (fun _ _ h_ => h_)); have m1_ := xm (Kd.R_kept F12.out hk_ (fun _ _ h_ => h_)); have m2_ := xm (Kd.S_kept F18.out hk_ (fun _ _ h_ => h_)); have m3_ := xm (Kd.R_kept F24.out hk_ (fun _ _ h_ => h_)); have m4_ := xm (Kd.R_kept F31.out hk_ (fun _ _ h_ => h_)); have m5_ := xm (Kd.R_kept F38.out hk_ (fun _ _ h_ => h_)); have m6_ := xm (Kd.R_kept F44.out hk_ (fun _ _ h_ => h_)); have m7_ := xm (Kd.S_kept F50.out hk_ (fun _ _ h_ => h_)); have m8_ := xm (Kd.R_kept F56.out hk_ (fun _ _ h_ => h_)); have m9_ := xm (Kd.R_kept F66.out hk_ (fun _ _ h_ => h_)); have m10_ := xm (Kd.R_kept F77.out hk_ (fun _ _ h_ => h_)); have m11_ := xm (Kd.R_kept F83.out hk_ (fun _ _ h_ => h_)); have m12_ := xm (Kd.S_kept F89.out hk_ (fun _ _ h_ => h_)); have m13_ := xm (Kd.R_kept F95.out hk_ (fun _ _ h_ => h_)); have m14_ := xm (Kd.R_kept F114.out hk_ (fun _ _ h_ => h_)); have m15_ := xm (Kd.R_kept F120.out hk_ (fun _ _ h_ => h_)); have m16_ := xm (Kd.S_kept F126.out hk_ (fun _ _ h_ => h_)); have m17_ := xm (Kd.R_kept F132.out hk_ (fun _ _ h_ => h_)); have m18_ := xm (blk_kept BKg1.out hk_ (fun h_ => h_)); have m19_ := xm (blk_kept BKg62.out hk_ (fun h_ => h_)); clear F6 F12 F18 F24 F31 F38 F44 F50 F56 F66 F77 F83 F89 F95 F114 F120 F126 F132 BKg1 BKg62; have F6 := m0_; have F12 := m1_; have F18 := m2_; have F24 := m3_; have F31 := m4_; have F38 := m5_; have F44 := m6_; have F50 := m7_; have F56 := m8_; have F66 := m9_; have F77 := m10_; have F83 := m11_; have F89 := m12_; have F95 := m13_; have F114 := m14_; have F120 := m15_; have F126 := m16_; have F132 := m17_; have BKg1 := m18_; have BKg62 := m19_; clear m0_ m1_ m2_ m3_ m4_ m5_ m6_ m7_ m8_ m9_ m10_ m11_ m12_ m13_ m14_ m15_ m16_ m17_ m18_ m19_; have m0_ := xm (below_step (w := w) HB.out hb_); clear HB; have HB := m0_; clear m0_ hb_ hk_ h0_; clear hcg1_0 hfg1_0 hcg1_1 hfg1_1 hcg1_2 hfg1_2 hcg1_3 hfg1_3 hcg1_4 hfg1_4 hcg1_5 hfg1_5 hcg1_6 hfg1_6; obtain ⟨hcg1_0, hfg1_0, hcg1_1, hfg1_1, hcg1_2, hfg1_2, hcg1_3, hfg1_3, hcg1_4, hfg1_4, hcg1_5, hfg1_5, hcg1_6, hfg1_6⟩ := laws_FnExactOutOf.cs7 BKg1.out; clear hcg62_0 hfg62_0 hcg62_1 hfg62_1 hcg62_2 hfg62_2 hcg62_3 hfg62_3 hcg62_4 hfg62_4 hcg62_5 hfg62_5 hcg62_6 hfg62_6; obtain ⟨hcg62_0, hfg62_0, hcg62_1, hfg62_1, hcg62_2, hfg62_2, hcg62_3, hfg62_3, hcg62_4, hfg62_4, hcg62_5, hfg62_5, hcg62_6, hfg62_6⟩ := laws_FnExactOutOf.cs7 BKg62.out)
  | ((with_reducible refine gate_callee (f := 29) rfl ?_); refine goesL_ (some 97) rfl rfl Try.func29 (by kernel_rfl) rfl #[.slice A140 t138_0.length c141, .slice A32 t30_0.length c33] rfl (by (try simp only [List.map_toArray, List.map_cons, List.map_nil]); first | done | rfl) ?_; refine (laws_eqIntS.calls k _ _ t138_0 _ _ t30_0 true _ (Kd.R_reads' F139.out).2.2 (Kd.R_reads' F139.out).2.1 (Kd.R_reads' F31.out).2.2 (Kd.R_reads' F31.out).2.1 t145A.out).mono ?_; rintro e w19_ ⟨rfl, hb_⟩; refine ⟨_, rfl, ?_⟩; replace hb_ := hb_.below; have Z19 := xm (hb_.size : w18_.heap.size ≤ w19_.heap.size); have hk_ := Kept.of_below hb_ (fun _ => False); have m0_ := xm (Kd.R_kept F6.out hk_ (fun _ _ h_ => h_)); have m1_ := xm (Kd.R_kept F12.out hk_ (fun _ _ h_ => h_)); have m2_ := xm (Kd.S_kept F18.out hk_ (fun _ _ h_ => h_)); have m3_ := xm (Kd.R_kept F24.out hk_ (fun _ _ h_ => h_)); have m4_ := xm (Kd.R_kept F31.out hk_ (fun _ _ h_ => h_)); have m5_ := xm (Kd.R_kept F38.out hk_ (fun _ _ h_ => h_)); have m6_ := xm (Kd.R_kept F44.out hk_ (fun _ _ h_ => h_)); have m7_ := xm (Kd.S_kept F50.out hk_ (fun _ _ h_ => h_)); have m8_ := xm (Kd.R_kept F56.out hk_ (fun _ _ h_ => h_)); have m9_ := xm (Kd.R_kept F66.out hk_ (fun _ _ h_ => h_)); have m10_ := xm (Kd.R_kept F77.out hk_ (fun _ _ h_ => h_)); have m11_ := xm (Kd.R_kept F83.out hk_ (fun _ _ h_ => h_)); have m12_ := xm (Kd.S_kept F89.out hk_ (fun _ _ h_ => h_)); have m13_ := xm (Kd.R_kept F95.out hk_ (fun _ _ h_ => h_)); have m14_ := xm (Kd.R_kept F114.out hk_ (fun _ _ h_ => h_)); have m15_ := xm (Kd.R_kept F120.out hk_ (fun _ _ h_ => h_)); have m16_ := xm (Kd.S_kept F126.out hk_ (fun _ _ h_ => h_)); have m17_ := xm (Kd.R_kept F132.out hk_ (fun _ _ h_ => h_)); have m18_ := xm (Kd.R_kept F139.out hk_ (fun _ _ h_ => h_)); have m19_ := xm (blk_kept BKg1.out hk_ (fun h_ => h_)); have m20_ := xm (blk_kept BKg62.out hk_ (fun h_ => h_)); clear F6 F12 F18 F24 F31 F38 F44 F50 F56 F66 F77 F83 F89 F95 F114 F120 F126 F132 F139 BKg1 BKg62; have F6 := m0_; have F12 := m1_; have F18 := m2_; have F24 := m3_; have F31 := m4_; have F38 := m5_; have F44 := m6_; have F50 := m7_; have F56 := m8_; have F66 := m9_; have F77 := m10_; have F83 := m11_; have F89 := m12_; have F95 := m13_; have F114 := m14_; have F120 := m15_; have F126 := m16_; have F132 := m17_; have F139 := m18_; have BKg1 := m19_; have BKg62 := m20_; clear m0_ m1_ m2_ m3_ m4_ m5_ m6_ m7_ m8_ m9_ m10_ m11_ m12_ m13_ m14_ m15_ m16_ m17_ m18_ m19_ m20_; have m0_ := xm (below_step (w := w) HB.out hb_); clear HB; have HB := m0_; clear m0_ hb_ hk_; clear hcg1_0 hfg1_0 hcg1_1 hfg1_1 hcg1_2 hfg1_2 hcg1_3 hfg1_3 hcg1_4 hfg1_4 hcg1_5 hfg1_5 hcg1_6 hfg1_6; obtain ⟨hcg1_0, hfg1_0, hcg1_1, hfg1_1, hcg1_2, hfg1_2, hcg1_3, hfg1_3, hcg1_4, hfg1_4, hcg1_5, hfg1_5, hcg1_6, hfg1_6⟩ := laws_FnExactOutOf.cs7 BKg1.out; clear hcg62_0 hfg62_0 hcg62_1 hfg62_1 hcg62_2 hfg62_2 hcg62_3 hfg62_3 hcg62_4 hfg62_4 hcg62_5 hfg62_5 hcg62_6 hfg62_6; obtain ⟨hcg62_0, hfg62_0, hcg62_1, hfg62_1, hcg62_2, hfg62_2, hcg62_3, hfg62_3, hcg62_4, hfg62_4, hcg62_5, hfg62_5, hcg62_6, hfg62_6⟩ := laws_FnExactOutOf.cs7 BKg62.out)
  | ((with_reducible refine gate_callee (f := 62) rfl ?_); refine goesL_ (some 111) rfl rfl Try.func62 (by kernel_rfl) rfl #[.slice A67 t65_0.length c68, .int .i64 1] rfl (by (try simp only [List.map_toArray, List.map_cons, List.map_nil]); first | done | rfl) ?_; refine calls_of_args (args' := #[.slice A67 t109_1.length c68, .int .i64 1]) (by simp only [LEF66.out]) ?_; refine (laws_heldIntS.calls k _ _ t109_1 1 t149_0 _ (Kd.R_reads' F66.out).2.2 (by have z_ := Kd.R_reads' F66.out; have y_ := z_.1; have x_ := z_.2.1; omega) t149A.out).mono ?_; rintro e w20_ ⟨rfl, hb_⟩; refine ⟨_, rfl, ?_⟩; replace hb_ := hb_.below; have Z20 := xm (hb_.size : w19_.heap.size ≤ w20_.heap.size); have hk_ := Kept.of_below hb_ (fun _ => False); have m0_ := xm (Kd.R_kept F6.out hk_ (fun _ _ h_ => h_)); have m1_ := xm (Kd.R_kept F12.out hk_ (fun _ _ h_ => h_)); have m2_ := xm (Kd.S_kept F18.out hk_ (fun _ _ h_ => h_)); have m3_ := xm (Kd.R_kept F24.out hk_ (fun _ _ h_ => h_)); have m4_ := xm (Kd.R_kept F31.out hk_ (fun _ _ h_ => h_)); have m5_ := xm (Kd.R_kept F38.out hk_ (fun _ _ h_ => h_)); have m6_ := xm (Kd.R_kept F44.out hk_ (fun _ _ h_ => h_)); have m7_ := xm (Kd.S_kept F50.out hk_ (fun _ _ h_ => h_)); have m8_ := xm (Kd.R_kept F56.out hk_ (fun _ _ h_ => h_)); have m9_ := xm (Kd.R_kept F66.out hk_ (fun _ _ h_ => h_)); have m10_ := xm (Kd.R_kept F77.out hk_ (fun _ _ h_ => h_)); have m11_ := xm (Kd.R_kept F83.out hk_ (fun _ _ h_ => h_)); have m12_ := xm (Kd.S_kept F89.out hk_ (fun _ _ h_ => h_)); have m13_ := xm (Kd.R_kept F95.out hk_ (fun _ _ h_ => h_)); have m14_ := xm (Kd.R_kept F114.out hk_ (fun _ _ h_ => h_)); have m15_ := xm (Kd.R_kept F120.out hk_ (fun _ _ h_ => h_)); have m16_ := xm (Kd.S_kept F126.out hk_ (fun _ _ h_ => h_)); have m17_ := xm (Kd.R_kept F132.out hk_ (fun _ _ h_ => h_)); have m18_ := xm (Kd.R_kept F139.out hk_ (fun _ _ h_ => h_)); have m19_ := xm (blk_kept BKg1.out hk_ (fun h_ => h_)); have m20_ := xm (blk_kept BKg62.out hk_ (fun h_ => h_)); clear F6 F12 F18 F24 F31 F38 F44 F50 F56 F66 F77 F83 F89 F95 F114 F120 F126 F132 F139 BKg1 BKg62; have F6 := m0_; have F12 := m1_; have F18 := m2_; have F24 := m3_; have F31 := m4_; have F38 := m5_; have F44 := m6_; have F50 := m7_; have F56 := m8_; have F66 := m9_; have F77 := m10_; have F83 := m11_; have F89 := m12_; have F95 := m13_; have F114 := m14_; have F120 := m15_; have F126 := m16_; have F132 := m17_; have F139 := m18_; have BKg1 := m19_; have BKg62 := m20_; clear m0_ m1_ m2_ m3_ m4_ m5_ m6_ m7_ m8_ m9_ m10_ m11_ m12_ m13_ m14_ m15_ m16_ m17_ m18_ m19_ m20_; have m0_ := xm (below_step (w := w) HB.out hb_); clear HB; have HB := m0_; clear m0_ hb_ hk_; clear hcg1_0 hfg1_0 hcg1_1 hfg1_1 hcg1_2 hfg1_2 hcg1_3 hfg1_3 hcg1_4 hfg1_4 hcg1_5 hfg1_5 hcg1_6 hfg1_6; obtain ⟨hcg1_0, hfg1_0, hcg1_1, hfg1_1, hcg1_2, hfg1_2, hcg1_3, hfg1_3, hcg1_4, hfg1_4, hcg1_5, hfg1_5, hcg1_6, hfg1_6⟩ := laws_FnExactOutOf.cs7 BKg1.out; clear hcg62_0 hfg62_0 hcg62_1 hfg62_1 hcg62_2 hfg62_2 hcg62_3 hfg62_3 hcg62_4 hfg62_4 hcg62_5 hfg62_5 hcg62_6 hfg62_6; obtain ⟨hcg62_0, hfg62_0, hcg62_1, hfg62_1, hcg62_2, hfg62_2, hcg62_3, hfg62_3, hcg62_4, hfg62_4, hcg62_5, hfg62_5, hcg62_6, hfg62_6⟩ := laws_FnExactOutOf.cs7 BKg62.out)
  | (go_at_call 29; refine (laws_eqIntS.calls k _ _ t65_0 _ _ t30_0 true _ (Kd.R_reads' F66.out).2.2 (Kd.R_reads' F66.out).2.1 (Kd.R_reads' F31.out).2.2 (Kd.R_reads' F31.out).2.1 t105A.out).mono ?_; rintro e w14_ ⟨rfl, hb_⟩; replace hb_ := hb_.below; have Z14 := xm (hb_.size : w13_.heap.size ≤ w14_.heap.size); have hk_ := Kept.of_below hb_ (fun _ => False); have m0_ := xm (Kd.R_kept F6.out hk_ (fun _ _ h_ => h_)); have m1_ := xm (Kd.R_kept F12.out hk_ (fun _ _ h_ => h_)); have m2_ := xm (Kd.S_kept F18.out hk_ (fun _ _ h_ => h_)); have m3_ := xm (Kd.R_kept F24.out hk_ (fun _ _ h_ => h_)); have m4_ := xm (Kd.R_kept F31.out hk_ (fun _ _ h_ => h_)); have m5_ := xm (Kd.R_kept F38.out hk_ (fun _ _ h_ => h_)); have m6_ := xm (Kd.R_kept F44.out hk_ (fun _ _ h_ => h_)); have m7_ := xm (Kd.S_kept F50.out hk_ (fun _ _ h_ => h_)); have m8_ := xm (Kd.R_kept F56.out hk_ (fun _ _ h_ => h_)); have m9_ := xm (Kd.R_kept F66.out hk_ (fun _ _ h_ => h_)); have m10_ := xm (Kd.R_kept F77.out hk_ (fun _ _ h_ => h_)); have m11_ := xm (Kd.R_kept F83.out hk_ (fun _ _ h_ => h_)); have m12_ := xm (Kd.S_kept F89.out hk_ (fun _ _ h_ => h_)); have m13_ := xm (Kd.R_kept F95.out hk_ (fun _ _ h_ => h_)); have m14_ := xm (blk_kept BKg1.out hk_ (fun h_ => h_)); have m15_ := xm (blk_kept BKg62.out hk_ (fun h_ => h_)); clear F6 F12 F18 F24 F31 F38 F44 F50 F56 F66 F77 F83 F89 F95 BKg1 BKg62; have F6 := m0_; have F12 := m1_; have F18 := m2_; have F24 := m3_; have F31 := m4_; have F38 := m5_; have F44 := m6_; have F50 := m7_; have F56 := m8_; have F66 := m9_; have F77 := m10_; have F83 := m11_; have F89 := m12_; have F95 := m13_; have BKg1 := m14_; have BKg62 := m15_; clear m0_ m1_ m2_ m3_ m4_ m5_ m6_ m7_ m8_ m9_ m10_ m11_ m12_ m13_ m14_ m15_; have m0_ := xm (below_step (w := w) HB.out hb_); clear HB; have HB := m0_; clear m0_ hb_ hk_; clear hcg1_0 hfg1_0 hcg1_1 hfg1_1 hcg1_2 hfg1_2 hcg1_3 hfg1_3 hcg1_4 hfg1_4 hcg1_5 hfg1_5 hcg1_6 hfg1_6; obtain ⟨hcg1_0, hfg1_0, hcg1_1, hfg1_1, hcg1_2, hfg1_2, hcg1_3, hfg1_3, hcg1_4, hfg1_4, hcg1_5, hfg1_5, hcg1_6, hfg1_6⟩ := laws_FnExactOutOf.cs7 BKg1.out; clear hcg62_0 hfg62_0 hcg62_1 hfg62_1 hcg62_2 hfg62_2 hcg62_3 hfg62_3 hcg62_4 hfg62_4 hcg62_5 hfg62_5 hcg62_6 hfg62_6; obtain ⟨hcg62_0, hfg62_0, hcg62_1, hfg62_1, hcg62_2, hfg62_2, hcg62_3, hfg62_3, hcg62_4, hfg62_4, hcg62_5, hfg62_5, hcg62_6, hfg62_6⟩ := laws_FnExactOutOf.cs7 BKg62.out))
 go_wp2
 go_ret
 exact ⟨by first | rfl | (simp [errW_none, errW_some] <;> rfl) | (simp [*, errW_none, errW_some] <;> rfl), HB.out⟩

/-- THE ONE PURE STATEMENT of laws_FnExactOutOf. -/
def laws_FnExactOutOf.Pure : Prop := ∀ x0 : S66, wf66 x0 → ∃ k, laws_FnExactOutOf.f k x0.f0 x0.f1 x0.f2 x0.f3 x0.f4 x0.f5 x0.f6 = some true

end Go.Proofs.Ytpbpglbldgpckaa.G
