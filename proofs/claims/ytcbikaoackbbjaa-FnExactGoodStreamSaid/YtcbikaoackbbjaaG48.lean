/- Written by a program of this claim's own, out of the translation: functions of the program as plain functions, and that the calls answer as these. No conditions. -/
import Derived.Test.YtcbikaoackbbjaaG0
import Derived.Test.YtcbikaoackbbjaaG46
import Derived.Test.YtcbikaoackbbjaaG47
namespace Go.Proofs.Ytcbikaoackbbjaa.G
open Go.RowKit Go.Proofs.Ytcbikaoackbbjaa.X Go.Proofs.YtcbikaoackbbjaaW.PrintWords Go.Proofs.YtcbikaoackbbjaaW.PrintLast Go.Proofs.YtcbikaoackbbjaaW.PrintMore
attribute [local go_sem] max2_int min2_int max_two min_two max_three min_three max_four min_four   -- for this text's walks alone
set_option linter.unusedVariables false
set_option linter.unusedSimpArgs false

/-! ### laws_FnExactGoodStream: function 15 -/
def laws_FnExactGoodStream.f (k : Nat) (a0_0 : Int) (l0_1 : List (S56)) : Option (Bool) := (laws_szStream.f k a0_0 l0_1 1048576).bind fun t947 => (if t947 < 0 then (some true) else ((laws_toStream.f k a0_0 l0_1).bind fun bt948 => ((spec_GoodStream.f k bt948.1 bt948.2).bind fun t952 => ((laws_toStream.f k a0_0 l0_1).bind fun bt953 => ((impl_GoodStream.f k bt953.1 bt953.2).bind fun t958 => (if (t958 != t952) = true then (some false) else ((laws_toStream.f k a0_0 l0_1).bind fun bt959 => ((laws_eqStream.f k bt953.1 bt953.2 bt959.1 bt959.2).bind fun t963 => (if t963 = true then (some true) else (some false))))))))))
theorem laws_FnExactGoodStream.mono : ∀ a0 a1 k, LeO (laws_FnExactGoodStream.f k a0 a1) (laws_FnExactGoodStream.f (k + 1) a0 a1) := by
 intro a0 a1 k
 unfold laws_FnExactGoodStream.f
 repeat' first
   | (with_reducible exact impl_GoodStream.mono _ _ _)
   | (with_reducible exact laws_eqStream.mono _ _ _ _ _)
   | (with_reducible exact laws_szStream.mono _ _ _ _)
   | (with_reducible exact laws_toStream.mono _ _ _)
   | (with_reducible exact spec_GoodStream.mono _ _ _)
   | (with_reducible exact LeO.refl _)
   | (with_reducible exact LeO.none _)
   | (with_reducible refine LeO.ite ?_ ?_)
   | (with_reducible refine LeO.bind ?_ (fun _ => ?_))
   | exact impl_GoodStream.mono _ _ _
   | exact laws_eqStream.mono _ _ _ _ _
   | exact laws_szStream.mono _ _ _ _
   | exact laws_toStream.mono _ _ _
   | exact spec_GoodStream.mono _ _ _
   | exact LeO.none _
   | refine LeO.ite ?_ ?_
   | refine LeO.bind ?_ (fun _ => ?_)
set_option maxHeartbeats 8000000 in
set_option maxRecDepth 100000 in
theorem laws_FnExactGoodStream.calls (k : Nat) (a0_0 : Int) (A0_1 : Option Addr) (c0_1 : Nat) (l0_1 : List (S56)) (w : World) (hr0_1 : Kd.C k56 w A0_1 l0_1.length l0_1) (hc0_1 : l0_1.length ≤ c0_1) (h : laws_FnExactGoodStream.f k a0_0 l0_1 = some true) :
  Calls Try.prog 15 #[.agg #[.int .i64 a0_0, .slice A0_1 l0_1.length c0_1]] w fun e w' => e = .returned (.bool true) ∧ Below w.heap.size w w' := by
 have hu89 := Try.underlying89
 have hu94 := Try.underlying94
 have HR0_1 := Aside0.mk hr0_1
 have HC0_1 := Aside0.mk hc0_1
 clear hr0_1 hc0_1
 have HB := Aside0.mk (Below.refl w.heap.size w)
 have H : ((laws_szStream.f k a0_0 l0_1 1048576).bind fun t947 => (if t947 < 0 then (some true) else ((laws_toStream.f k a0_0 l0_1).bind fun bt948 => ((spec_GoodStream.f k bt948.1 bt948.2).bind fun t952 => ((laws_toStream.f k a0_0 l0_1).bind fun bt953 => ((impl_GoodStream.f k bt953.1 bt953.2).bind fun t958 => (if (t958 != t952) = true then (some false) else ((laws_toStream.f k a0_0 l0_1).bind fun bt959 => ((laws_eqStream.f k bt953.1 bt953.2 bt959.1 bt959.2).bind fun t963 => (if t963 = true then (some true) else (some false))))))))))) = some true := h
 clear h
 replace H := Option.bind_eq_some_iff.mp H
 obtain ⟨t947, A20, H⟩ := H
 replace H : (if t947 < 0 then (some true) else ((laws_toStream.f k a0_0 l0_1).bind fun bt948 => ((spec_GoodStream.f k bt948.1 bt948.2).bind fun t952 => ((laws_toStream.f k a0_0 l0_1).bind fun bt953 => ((impl_GoodStream.f k bt953.1 bt953.2).bind fun t958 => (if (t958 != t952) = true then (some false) else ((laws_toStream.f k a0_0 l0_1).bind fun bt959 => ((laws_eqStream.f k bt953.1 bt953.2 bt959.1 bt959.2).bind fun t963 => (if t963 = true then (some true) else (some false)))))))))) = some true := H
 have A2 := Aside0.mk A20
 clear A20
 by_cases c3 : t947 < 0
 ·rw [if_pos c3] at H
  have c3b0 : decide (t947 < 0) = true := decide_eq_true c3
  clear c3
  clear H
  go_enter Try.func15, Try.ntmps15
  go_wp2_with (first | ((with_reducible refine gate_dst (N := 1) rfl ?_); refine box_event ?hg (N := 1) ?hd (cs := #[.int .i64 a0_0, .slice A0_1 l0_1.length c0_1]) (t := 89) ?hr ?_; (case hd => rfl); (case hg => rfl); (case hr => first | (go_simp; done) | (go_simp; rfl)); intro gb946 hg w4 hbox hb; have n0_ := Aside0.mk (below_step (by repeat (first | (with_reducible first | exact HB.out | apply below_alloc | apply pw_below_drewN | apply below_drew1) | exact HB.out)) hb); have n1_ := Aside0.mk (hbox); have n2_ := Aside0.mk ((by rw [hg]; exact (below_size (by repeat (first | (with_reducible first | exact HB.out | apply below_alloc | apply pw_below_drewN | apply below_drew1) | exact HB.out))) : w.heap.size ≤ gb946)); have n3_ := Aside0.mk ((by rw [hg]; exact (below_size (by repeat (first | (with_reducible first | exact HB.out | apply below_alloc | apply pw_below_drewN | apply below_drew1) | exact HB.out))) : w.heap.size ≤ gb946)); clear HB; have HB := n0_; have BK946 := n1_; have GW946 := n2_; have GE946 := n3_; clear n0_ n1_ n2_ n3_; clear hb hbox hg; have hcz5_0 : w4.cell? ⟨gb946, 0, none⟩ = some (.int .i64 a0_0) := (blk_cell BK946.out 0).trans rfl; have hcz5_1 : w4.cell? ⟨gb946, 1, none⟩ = some (.slice A0_1 l0_1.length c0_1) := (blk_cell BK946.out 1).trans rfl; have hfz5_0 := blk_frozen BK946.out 0; have hfz5_1 := blk_frozen BK946.out 1) | ((with_reducible refine gate_callee (f := 68) rfl ?_); refine goesL_ (some 9) rfl rfl Try.func68 (by kernel_rfl) rfl #[.agg #[.int .i64 a0_0, .slice A0_1 l0_1.length c0_1], .int .i64 1048576] rfl (by (try simp only [List.map_toArray, List.map_cons, List.map_nil]); first | done | rfl | (simp only [List.length_drop, List.length_take]; rfl)) ?_; (with_reducible refine (laws_szStream.calls k a0_0 _ _ l0_1 1048576 t947 _ ?side1 ?side2 A2.out).mono ?_); (case side1 => repeat (first | exact (Kd.C_below HR0_1.out HB.out) | (with_reducible refine Kd.C_alloc ?_ _) | (with_reducible refine Kd.C_drewN ?_ _) | (with_reducible refine Kd.C_drew ?_))); (case side2 => exact HC0_1.out); rintro e w6 ⟨rfl, hb⟩; refine ⟨_, rfl, ?_⟩; have n0_ := Aside0.mk (blk_below (g := gb946) (o := .cells #[.int .i64 a0_0, .slice A0_1 l0_1.length c0_1] 89 (0, 0)) (by (with_reducible repeat (first | refine blk_drewN ?_ _ | refine blk_drew ?_ | refine blk_alloc ?_ _)); exact BK946.out) hb); have n1_ := Aside0.mk (below_step (by repeat (first | (with_reducible first | exact HB.out | apply below_alloc | apply pw_below_drewN | apply below_drew1 | refine below_set ?_ GE946.out) | exact HB.out)) hb); clear BK946; clear HB; have BK946 := n0_; have HB := n1_; clear n0_ n1_; (try clear hb); (try clear hb2); (try clear hk); (try clear hi)))
  go_ret
  exact ⟨by first | rfl | (simp [errW_none, errW_some] <;> rfl) | (simp [*, errW_none, errW_some] <;> rfl), by repeat (first | (with_reducible first | exact HB.out | apply below_alloc | apply pw_below_drewN | apply below_drew1 | refine below_set ?_ GE946.out) | exact HB.out)⟩
 ·rw [if_neg c3] at H
  have c3b0 : decide (t947 < 0) = false := decide_eq_false c3
  clear c3
  replace H := Option.bind_eq_some_iff.mp H
  obtain ⟨⟨t948, t949⟩, A70, H⟩ := H
  replace H : ((spec_GoodStream.f k t948 t949).bind fun t952 => ((laws_toStream.f k a0_0 l0_1).bind fun bt953 => ((impl_GoodStream.f k bt953.1 bt953.2).bind fun t958 => (if (t958 != t952) = true then (some false) else ((laws_toStream.f k a0_0 l0_1).bind fun bt959 => ((laws_eqStream.f k bt953.1 bt953.2 bt959.1 bt959.2).bind fun t963 => (if t963 = true then (some true) else (some false)))))))) = some true := H
  have A7 := Aside0.mk A70
  clear A70
  replace H := Option.bind_eq_some_iff.mp H
  obtain ⟨t952, A80, H⟩ := H
  replace H : ((laws_toStream.f k a0_0 l0_1).bind fun bt953 => ((impl_GoodStream.f k bt953.1 bt953.2).bind fun t958 => (if (t958 != t952) = true then (some false) else ((laws_toStream.f k a0_0 l0_1).bind fun bt959 => ((laws_eqStream.f k bt953.1 bt953.2 bt959.1 bt959.2).bind fun t963 => (if t963 = true then (some true) else (some false))))))) = some true := H
  have A8 := Aside0.mk A80
  clear A80
  replace H := Option.bind_eq_some_iff.mp H
  obtain ⟨⟨t953, t954⟩, A90, H⟩ := H
  replace H : ((impl_GoodStream.f k t953 t954).bind fun t958 => (if (t958 != t952) = true then (some false) else ((laws_toStream.f k a0_0 l0_1).bind fun bt959 => ((laws_eqStream.f k t953 t954 bt959.1 bt959.2).bind fun t963 => (if t963 = true then (some true) else (some false)))))) = some true := H
  have A9 := Aside0.mk A90
  clear A90
  replace H := Option.bind_eq_some_iff.mp H
  obtain ⟨t958, A100, H⟩ := H
  replace H : (if (t958 != t952) = true then (some false) else ((laws_toStream.f k a0_0 l0_1).bind fun bt959 => ((laws_eqStream.f k t953 t954 bt959.1 bt959.2).bind fun t963 => (if t963 = true then (some true) else (some false))))) = some true := H
  have A10 := Aside0.mk A100
  clear A100
  by_cases c11 : (t958 != t952) = true
  ·rw [if_pos c11] at H
   have c11b0 : (t958 != t952) = true := c11
   (try (have c11b1 : decide (t958 = t952) = false := by simpa using c11))
   (try (have c11b2 : (t958 == t952) = false := by simpa using c11))
   (try (have c11b3 : ¬ (t958 = t952) := by simpa using c11))
   clear c11
   exact absurd H (by simp)
  ·rw [if_neg c11] at H
   have c11b0 : (t958 != t952) = false := by simpa using c11
   (try (have c11b1 : decide (t958 = t952) = true := by simpa using c11))
   (try (have c11b2 : (t958 == t952) = true := by simpa using c11))
   clear c11
   replace H := Option.bind_eq_some_iff.mp H
   obtain ⟨⟨t959, t960⟩, A120, H⟩ := H
   replace H : ((laws_eqStream.f k t953 t954 t959 t960).bind fun t963 => (if t963 = true then (some true) else (some false))) = some true := H
   have A12 := Aside0.mk A120
   clear A120
   replace H := Option.bind_eq_some_iff.mp H
   obtain ⟨t963, A130, H⟩ := H
   replace H : (if t963 = true then (some true) else (some false)) = some true := H
   have A13 := Aside0.mk A130
   clear A130
   by_cases c14 : t963 = true
   ·subst c14
    have H1 : (some true) = some true := by first | (with_reducible rfl) | (rw [if_pos rfl] at H; exact H)
    clear H
    have H := H1
    clear H1
    clear H
    go_enter Try.func15, Try.ntmps15
    try go_wp2_with (first | ((with_reducible refine gate_dst (N := 1) rfl ?_); refine box_event ?hg (N := 1) ?hd (cs := #[.int .i64 a0_0, .slice A0_1 l0_1.length c0_1]) (t := 89) ?hr ?_; (case hd => rfl); (case hg => rfl); (case hr => first | (go_simp; done) | (go_simp; rfl)); intro gb946 hg w15 hbox hb; have n0_ := Aside0.mk (below_step (by repeat (first | (with_reducible first | exact HB.out | apply below_alloc | apply pw_below_drewN | apply below_drew1) | exact HB.out)) hb); have n1_ := Aside0.mk (hbox); have n2_ := Aside0.mk ((by rw [hg]; exact (below_size (by repeat (first | (with_reducible first | exact HB.out | apply below_alloc | apply pw_below_drewN | apply below_drew1) | exact HB.out))) : w.heap.size ≤ gb946)); have n3_ := Aside0.mk ((by rw [hg]; exact (below_size (by repeat (first | (with_reducible first | exact HB.out | apply below_alloc | apply pw_below_drewN | apply below_drew1) | exact HB.out))) : w.heap.size ≤ gb946)); clear HB; have HB := n0_; have BK946 := n1_; have GW946 := n2_; have GE946 := n3_; clear n0_ n1_ n2_ n3_; clear hb hbox hg; have hcz16_0 : w15.cell? ⟨gb946, 0, none⟩ = some (.int .i64 a0_0) := (blk_cell BK946.out 0).trans rfl; have hcz16_1 : w15.cell? ⟨gb946, 1, none⟩ = some (.slice A0_1 l0_1.length c0_1) := (blk_cell BK946.out 1).trans rfl; have hfz16_0 := blk_frozen BK946.out 0; have hfz16_1 := blk_frozen BK946.out 1) | ((with_reducible refine gate_callee (f := 68) rfl ?_); refine goesL_ (some 9) rfl rfl Try.func68 (by kernel_rfl) rfl #[.agg #[.int .i64 a0_0, .slice A0_1 l0_1.length c0_1], .int .i64 1048576] rfl (by (try simp only [List.map_toArray, List.map_cons, List.map_nil]); first | done | rfl | (simp only [List.length_drop, List.length_take]; rfl)) ?_; (with_reducible refine (laws_szStream.calls k a0_0 _ _ l0_1 1048576 t947 _ ?side1 ?side2 A2.out).mono ?_); (case side1 => repeat (first | exact (Kd.C_below HR0_1.out HB.out) | (with_reducible refine Kd.C_alloc ?_ _) | (with_reducible refine Kd.C_drewN ?_ _) | (with_reducible refine Kd.C_drew ?_))); (case side2 => exact HC0_1.out); rintro e w17 ⟨rfl, hb⟩; refine ⟨_, rfl, ?_⟩; have n0_ := Aside0.mk (blk_below (g := gb946) (o := .cells #[.int .i64 a0_0, .slice A0_1 l0_1.length c0_1] 89 (0, 0)) (by (with_reducible repeat (first | refine blk_drewN ?_ _ | refine blk_drew ?_ | refine blk_alloc ?_ _)); exact BK946.out) hb); have n1_ := Aside0.mk (below_step (by repeat (first | (with_reducible first | exact HB.out | apply below_alloc | apply pw_below_drewN | apply below_drew1 | refine below_set ?_ GE946.out) | exact HB.out)) hb); clear BK946; clear HB; have BK946 := n0_; have HB := n1_; clear n0_ n1_; (try clear hb); (try clear hb2); (try clear hk); (try clear hi); have hcz18_0 : w17.cell? ⟨gb946, 0, none⟩ = some (.int .i64 a0_0) := (blk_cell BK946.out 0).trans rfl; have hcz18_1 : w17.cell? ⟨gb946, 1, none⟩ = some (.slice A0_1 l0_1.length c0_1) := (blk_cell BK946.out 1).trans rfl; have hfz18_0 := blk_frozen BK946.out 0; have hfz18_1 := blk_frozen BK946.out 1) | ((with_reducible refine gate_callee (f := 70) rfl ?_); refine goesL_ (some 13) rfl rfl Try.func70 (by kernel_rfl) rfl #[.agg #[.int .i64 a0_0, .slice A0_1 l0_1.length c0_1]] rfl (by (try simp only [List.map_toArray, List.map_cons, List.map_nil]); first | done | rfl | (simp only [List.length_drop, List.length_take]; rfl)) ?_; (with_reducible refine (laws_toStream.calls k a0_0 _ _ l0_1 t948 t949 _ ?side1 ?side2 A7.out).mono ?_); (case side1 => repeat (first | exact (Kd.C_below HR0_1.out HB.out) | (with_reducible refine Kd.C_alloc ?_ _) | (with_reducible refine Kd.C_drewN ?_ _) | (with_reducible refine Kd.C_drew ?_))); (case side2 => exact HC0_1.out); rintro e w19 ⟨v950, rfl, ho0, hb⟩; refine ⟨_, rfl, ?_⟩; have n0_ := Aside0.mk (Kd.R_lower ho0 (below_size (by repeat (first | (with_reducible first | exact HB.out | apply below_alloc | apply pw_below_drewN | apply below_drew1 | refine below_set ?_ GE946.out) | exact HB.out)))); have n1_ := Aside0.mk (blk_below (g := gb946) (o := .cells #[.int .i64 a0_0, .slice A0_1 l0_1.length c0_1] 89 (0, 0)) (by (with_reducible repeat (first | refine blk_drewN ?_ _ | refine blk_drew ?_ | refine blk_alloc ?_ _)); exact BK946.out) hb); have n2_ := Aside0.mk (below_step (by repeat (first | (with_reducible first | exact HB.out | apply below_alloc | apply pw_below_drewN | apply below_drew1 | refine below_set ?_ GE946.out) | exact HB.out)) hb); clear BK946; clear HB; have HO951 := n0_; have BK946 := n1_; have HB := n2_; clear n0_ n1_ n2_; (try clear hb); (try clear hb2); (try clear hk); (try clear hi); (try clear ho0); obtain ⟨Ao20, co20, eo20⟩ := Kd.R_slice HO951.out; subst eo20) | ((with_reducible refine gate_callee (f := 69) rfl ?_); refine goesL_ (some 14) rfl rfl Try.func69 (by kernel_rfl) rfl #[.agg #[.int .i64 t948, .slice Ao20 t949.length co20]] rfl (by (try simp only [List.map_toArray, List.map_cons, List.map_nil]); first | done | rfl | (simp only [List.length_drop, List.length_take]; rfl)) ?_; (with_reducible refine (spec_GoodStream.calls k t948 _ _ t949 t952 _ ?side1 ?side2 A8.out).mono ?_); (case side1 => repeat (first | exact (Kd.R_reads' HO951.out).2.2 | (with_reducible refine Kd.C_alloc ?_ _) | (with_reducible refine Kd.C_drewN ?_ _) | (with_reducible refine Kd.C_drew ?_))); (case side2 => exact (Kd.R_reads' HO951.out).2.1); rintro e w21 ⟨rfl, hb⟩; refine ⟨_, rfl, ?_⟩; have n0_ := Aside0.mk (Kd.R_below (by (with_reducible repeat (first | apply Kd.R_alloc | apply Kd.R_drewN | apply Kd.R_drew)); exact HO951.out) hb); have n1_ := Aside0.mk (blk_below (g := gb946) (o := .cells #[.int .i64 a0_0, .slice A0_1 l0_1.length c0_1] 89 (0, 0)) (by (with_reducible repeat (first | refine blk_drewN ?_ _ | refine blk_drew ?_ | refine blk_alloc ?_ _)); exact BK946.out) hb); have n2_ := Aside0.mk (below_step (by repeat (first | (with_reducible first | exact HB.out | apply below_alloc | apply pw_below_drewN | apply below_drew1 | refine below_set ?_ GE946.out) | exact HB.out)) hb); clear HO951; clear BK946; clear HB; have HO951 := n0_; have BK946 := n1_; have HB := n2_; clear n0_ n1_ n2_; (try clear hb); (try clear hb2); (try clear hk); (try clear hi); have hcz22_0 : w21.cell? ⟨gb946, 0, none⟩ = some (.int .i64 a0_0) := (blk_cell BK946.out 0).trans rfl; have hcz22_1 : w21.cell? ⟨gb946, 1, none⟩ = some (.slice A0_1 l0_1.length c0_1) := (blk_cell BK946.out 1).trans rfl; have hfz22_0 := blk_frozen BK946.out 0; have hfz22_1 := blk_frozen BK946.out 1) | ((with_reducible refine gate_callee (f := 70) rfl ?_); refine goesL_ (some 16) rfl rfl Try.func70 (by kernel_rfl) rfl #[.agg #[.int .i64 a0_0, .slice A0_1 l0_1.length c0_1]] rfl (by (try simp only [List.map_toArray, List.map_cons, List.map_nil]); first | done | rfl | (simp only [List.length_drop, List.length_take]; rfl)) ?_; (with_reducible refine (laws_toStream.calls k a0_0 _ _ l0_1 t953 t954 _ ?side1 ?side2 A9.out).mono ?_); (case side1 => repeat (first | exact (Kd.C_below HR0_1.out HB.out) | (with_reducible refine Kd.C_alloc ?_ _) | (with_reducible refine Kd.C_drewN ?_ _) | (with_reducible refine Kd.C_drew ?_))); (case side2 => exact HC0_1.out); rintro e w23 ⟨v955, rfl, ho0, hb⟩; refine ⟨_, rfl, ?_⟩; have n0_ := Aside0.mk (Kd.R_elder' (by (with_reducible repeat (first | apply Kd.R_alloc | apply Kd.R_drewN | apply Kd.R_drew)); exact HO951.out) (Kd.R_base ho0) hb); have n1_ := Aside0.mk (Kd.R_lower (Kd.R_new' ho0 (Kd.R_lt (by (with_reducible repeat (first | apply Kd.R_alloc | apply Kd.R_drewN | apply Kd.R_drew)); exact HO951.out))) (below_size (by repeat (first | (with_reducible first | exact HB.out | apply below_alloc | apply pw_below_drewN | apply below_drew1 | refine below_set ?_ GE946.out) | exact HB.out)))); have n2_ := Aside0.mk (blk_below (g := gb946) (o := .cells #[.int .i64 a0_0, .slice A0_1 l0_1.length c0_1] 89 (0, 0)) (by (with_reducible repeat (first | refine blk_drewN ?_ _ | refine blk_drew ?_ | refine blk_alloc ?_ _)); exact BK946.out) hb); have n3_ := Aside0.mk (below_step (by repeat (first | (with_reducible first | exact HB.out | apply below_alloc | apply pw_below_drewN | apply below_drew1 | refine below_set ?_ GE946.out) | exact HB.out)) hb); clear HO951; clear BK946; clear HB; have HO951 := n0_; have HO956 := n1_; have BK946 := n2_; have HB := n3_; clear n0_ n1_ n2_ n3_; (try clear hb); (try clear hb2); (try clear hk); (try clear hi); (try clear ho0)) | ((with_reducible refine gate_dst (N := 5) rfl ?_); refine box_event ?hg (N := 5) ?hd (cs := #[.int .i64 0, .slice none 0 0]) (t := 94) ?hr ?_; (case hd => rfl); (case hg => rfl); (case hr => first | (go_simp; done) | (go_simp; rfl)); intro gb957 hg w24 hbox hb; have n0_ := Aside0.mk (Kd.R_below (by (with_reducible repeat (first | apply Kd.R_alloc | apply Kd.R_drewN | apply Kd.R_drew)); exact HO951.out) hb); have n1_ := Aside0.mk (Kd.R_below (by (with_reducible repeat (first | apply Kd.R_alloc | apply Kd.R_drewN | apply Kd.R_drew)); exact HO956.out) hb); have n2_ := Aside0.mk (blk_below (g := gb946) (o := .cells #[.int .i64 a0_0, .slice A0_1 l0_1.length c0_1] 89 (0, 0)) (by (with_reducible repeat (first | refine blk_drewN ?_ _ | refine blk_drew ?_ | refine blk_alloc ?_ _)); exact BK946.out) hb); have n3_ := Aside0.mk (below_step (by repeat (first | (with_reducible first | exact HB.out | apply below_alloc | apply pw_below_drewN | apply below_drew1 | refine below_set ?_ GE946.out) | exact HB.out)) hb); have n4_ := Aside0.mk (hbox); have n5_ := Aside0.mk ((by rw [hg]; exact (below_size (by repeat (first | (with_reducible first | exact HB.out | apply below_alloc | apply pw_below_drewN | apply below_drew1 | refine below_set ?_ GE946.out) | exact HB.out))) : w.heap.size ≤ gb957)); have n6_ := Aside0.mk ((by rw [hg]; exact (below_size (by repeat (first | (with_reducible first | exact HB.out | apply below_alloc | apply pw_below_drewN | apply below_drew1 | refine below_set ?_ GE946.out) | exact HB.out))) : w.heap.size ≤ gb957)); have n7_ := Aside0.mk ((by rw [hg]; exact Nat.ne_of_lt (blk_lt (g := gb946) (o := .cells #[.int .i64 a0_0, .slice A0_1 l0_1.length c0_1] 89 (0, 0)) (by (with_reducible repeat (first | refine blk_drewN ?_ _ | refine blk_drew ?_ | refine blk_alloc ?_ _)); exact BK946.out)) : gb946 ≠ gb957)); have n8_ := Aside0.mk ((by rw [hg]; exact Nat.ne_of_gt (blk_lt (g := gb946) (o := .cells #[.int .i64 a0_0, .slice A0_1 l0_1.length c0_1] 89 (0, 0)) (by (with_reducible repeat (first | refine blk_drewN ?_ _ | refine blk_drew ?_ | refine blk_alloc ?_ _)); exact BK946.out)) : gb957 ≠ gb946)); clear HO951; clear HO956; clear BK946; clear HB; have HO951 := n0_; have HO956 := n1_; have BK946 := n2_; have HB := n3_; have BK957 := n4_; have GW957 := n5_; have GE957 := n6_; have NB946_957 := n7_; have NB957_946 := n8_; clear n0_ n1_ n2_ n3_ n4_ n5_ n6_ n7_ n8_; clear hb hbox hg; have hnb25 := NB957_946.out; have hnc25 := NB946_957.out; have hcz26_0 : w24.cell? ⟨gb957, 0, none⟩ = some (.int .i64 0) := (blk_cell BK957.out 0).trans rfl; have hcz26_1 : w24.cell? ⟨gb957, 1, none⟩ = some (.slice none 0 0) := (blk_cell BK957.out 1).trans rfl; have hfz26_0 := blk_frozen BK957.out 0; have hfz26_1 := blk_frozen BK957.out 1; obtain ⟨Ao27, co27, eo27⟩ := Kd.R_slice HO956.out; subst eo27) | ((with_reducible refine gate_callee (f := 71) rfl ?_); refine goesL_ (some 18) rfl rfl Try.func71 (by kernel_rfl) rfl #[.agg #[.int .i64 t953, .slice Ao27 t954.length co27]] rfl (by (try simp only [List.map_toArray, List.map_cons, List.map_nil]); first | done | rfl | (simp only [List.length_drop, List.length_take]; rfl)) ?_; (with_reducible refine (impl_GoodStream.calls k t953 _ _ t954 t958 _ ?side1 ?side2 A10.out).mono ?_); (case side1 => refine (Kd.R_reads' (e := 41) (base := w.heap.size) (ok := fun k_ => (True ∧ some k_ ≠ (.slice Ao20 t949.length co20 : Value).ownBlock)) (n := t954.length) (c := co27) ?_).2.2; exact (by (with_reducible repeat (first | apply Kd.R_alloc | apply Kd.R_drewN | apply Kd.R_drew)); exact (Kd.R_mono (Kd.R_far (p := ⟨gb957, 1, none⟩) (Kd.R_far (p := ⟨gb957, 0, none⟩) (Kd.R_types HO956.out BK957.out (by decide)) (fun _ hk => hk.2) (.int .i64 t953)) (fun _ hk => hk.2) (.slice Ao27 t954.length co27)) (fun _ h_ => h_.1)))); (case side2 => exact (Kd.R_reads' HO956.out).2.1); rintro e w28 ⟨rfl, hb⟩; refine ⟨_, rfl, ?_⟩; have n0_ := Aside0.mk (Kd.R_below (by (with_reducible repeat (first | apply Kd.R_alloc | apply Kd.R_drewN | apply Kd.R_drew)); exact (Kd.R_mono (Kd.R_far (p := ⟨gb957, 1, none⟩) (Kd.R_far (p := ⟨gb957, 0, none⟩) (Kd.R_types HO951.out BK957.out (by decide)) (fun _ hk => hk.2) (.int .i64 t953)) (fun _ hk => hk.2) (.slice Ao27 t954.length co27)) (fun _ h_ => h_.1))) hb); have n1_ := Aside0.mk (Kd.R_below (by (with_reducible repeat (first | apply Kd.R_alloc | apply Kd.R_drewN | apply Kd.R_drew)); exact (Kd.R_mono (Kd.R_far (p := ⟨gb957, 1, none⟩) (Kd.R_far (p := ⟨gb957, 0, none⟩) (Kd.R_types HO956.out BK957.out (by decide)) (fun _ hk => hk.2) (.int .i64 t953)) (fun _ hk => hk.2) (.slice Ao27 t954.length co27)) (fun _ h_ => h_.1))) hb); have n2_ := Aside0.mk (blk_below (g := gb946) (o := .cells #[.int .i64 a0_0, .slice A0_1 l0_1.length c0_1] 89 (0, 0)) (by (with_reducible repeat (first | refine blk_drewN ?_ _ | refine blk_drew ?_ | refine blk_alloc ?_ _)); refine blk_far ?_ NB946_957.out _; (with_reducible repeat (first | refine blk_drewN ?_ _ | refine blk_drew ?_ | refine blk_alloc ?_ _)); refine blk_far ?_ NB946_957.out _; (with_reducible repeat (first | refine blk_drewN ?_ _ | refine blk_drew ?_ | refine blk_alloc ?_ _)); exact BK946.out) hb); have n3_ := Aside0.mk (blk_below (g := gb957) (o := .cells #[.int .i64 t953, .slice Ao27 t954.length co27] 94 (0, 0)) (by (with_reducible repeat (first | refine blk_drewN ?_ _ | refine blk_drew ?_ | refine blk_alloc ?_ _)); refine blk_put (cs := #[.int .i64 t953, .slice none 0 0]) ?_ 1 _ rfl; (with_reducible repeat (first | refine blk_drewN ?_ _ | refine blk_drew ?_ | refine blk_alloc ?_ _)); refine blk_put (cs := #[.int .i64 0, .slice none 0 0]) ?_ 0 _ rfl; (with_reducible repeat (first | refine blk_drewN ?_ _ | refine blk_drew ?_ | refine blk_alloc ?_ _)); exact BK957.out) hb); have n4_ := Aside0.mk (below_step (by repeat (first | (with_reducible first | exact HB.out | apply below_alloc | apply pw_below_drewN | apply below_drew1 | refine below_set ?_ GE946.out | refine below_set ?_ GE957.out) | exact HB.out)) hb); clear HO951; clear HO956; clear BK946; clear BK957; clear HB; have HO951 := n0_; have HO956 := n1_; have BK946 := n2_; have BK957 := n3_; have HB := n4_; clear n0_ n1_ n2_ n3_ n4_; (try clear hb); (try clear hb2); (try clear hk); (try clear hi)))
    have n0_ := Aside0.mk (Kd.R_drew HO951.out)
    have n1_ := Aside0.mk (Kd.R_drew HO956.out)
    have n2_ := Aside0.mk (blk_drew BK946.out)
    have n3_ := Aside0.mk (blk_drew BK957.out)
    have n4_ := Aside0.mk (below_drew1 HB.out)
    clear HO951
    clear HO956
    clear BK946
    clear BK957
    clear HB
    have HO951 := n0_
    have HO956 := n1_
    have BK946 := n2_
    have BK957 := n3_
    have HB := n4_
    clear n0_ n1_ n2_ n3_ n4_
    refine start_ (n := 5) (S := fun w' => w'.cell? ⟨gb957, 0, none⟩ = some (.int .i64 t953) ∧ w'.cell? ⟨gb957, 1, none⟩ = some (.slice Ao27 t954.length co27) ∧ w'.cell? ⟨gb946, 0, none⟩ = some (.int .i64 a0_0) ∧ w'.cell? ⟨gb946, 1, none⟩ = some (.slice A0_1 l0_1.length c0_1)) (ds := []) #[false, false, false, false, false] (by kernel_rfl) rfl rfl ⟨(blk_cell BK957.out 0).trans rfl, (blk_cell BK957.out 1).trans rfl, (blk_cell BK946.out 0).trans rfl, (blk_cell BK946.out 1).trans rfl⟩ (fun hHeld => ?_)
    generalize w28.drew = w29 at HO951 HO956 BK946 BK957 HB hHeld ⊢
    refine take_ (i := 0) (N := some 22) (v := ?_) (a' := ?_) #[true, false, false, false, false] rfl rfl (by kernel_rfl) (fun _ _ _ h => h) (Or.inl ⟨by rfl, ?_⟩) hHeld ?_ ?_
    rotate_left
    ·rintro w' ⟨s0, s1, s2, s3⟩
     go_simp
     with_reducible rfl
    rotate_left
    ·simp only [Act.put, List.setIfInBounds_toArray, List.set_cons_zero, List.set_cons_succ, i64_w, i32_w]
     rfl
    refine take_ (i := 1) (N := some 23) (v := ?_) (a' := ?_) #[true, true, false, false, false] rfl rfl (by kernel_rfl) (fun _ _ _ h => h) (Or.inl ⟨by rfl, ?_⟩) hHeld ?_ ?_
    rotate_left
    ·rintro w' ⟨s0, s1, s2, s3⟩
     go_simp
     with_reducible rfl
    rotate_left
    ·simp only [Act.put, List.setIfInBounds_toArray, List.set_cons_zero, List.set_cons_succ, i64_w, i32_w]
     rfl
    refine one_ (i := 2) (N := some 24) #[true, true, true, false, false] rfl rfl (by kernel_rfl) (by decide) (fun K hK => ?_)
    refine goes_ Try.func70 (by kernel_rfl) rfl #[.agg #[.int .i64 a0_0, .slice A0_1 l0_1.length c0_1]] (by rfl) rfl rfl (by (try simp only [List.map_toArray, List.map_cons, List.map_nil]); first | done | rfl | (simp only [List.length_drop, List.length_take]; rfl)) ?_
    with_reducible refine (laws_toStream.calls k a0_0 _ _ l0_1 t959 t960 _ ?side1 ?side2 A12.out).mono ?_
    (case side1 => repeat (first | exact (Kd.C_below HR0_1.out HB.out) | (with_reducible refine Kd.C_alloc ?_ _) | (with_reducible refine Kd.C_drewN ?_ _) | (with_reducible refine Kd.C_drew ?_)))
    (case side2 => exact HC0_1.out)
    rintro e w30 ⟨v961, rfl, ho0, hb⟩
    refine ⟨_, rfl, ?_⟩
    have n0_ := Aside0.mk (Kd.R_elder' (by (with_reducible repeat (first | apply Kd.R_alloc | apply Kd.R_drewN | apply Kd.R_drew)); exact HO951.out) (Kd.R_base ho0) hb)
    have n1_ := Aside0.mk (Kd.R_elder' (by (with_reducible repeat (first | apply Kd.R_alloc | apply Kd.R_drewN | apply Kd.R_drew)); exact HO956.out) (Kd.R_base ho0) hb)
    have n2_ := Aside0.mk (Kd.R_lower (Kd.R_new' (Kd.R_new' ho0 (Kd.R_lt (by (with_reducible repeat (first | apply Kd.R_alloc | apply Kd.R_drewN | apply Kd.R_drew)); exact HO951.out))) (Kd.R_lt (by (with_reducible repeat (first | apply Kd.R_alloc | apply Kd.R_drewN | apply Kd.R_drew)); exact HO956.out))) (below_size (by repeat (first | (with_reducible first | exact HB.out | apply below_alloc | apply pw_below_drewN | apply below_drew1 | refine below_set ?_ GE946.out | refine below_set ?_ GE957.out) | exact HB.out))))
    have n3_ := Aside0.mk (blk_below (g := gb946) (o := .cells #[.int .i64 a0_0, .slice A0_1 l0_1.length c0_1] 89 (0, 0)) (by (with_reducible repeat (first | refine blk_drewN ?_ _ | refine blk_drew ?_ | refine blk_alloc ?_ _)); exact BK946.out) hb)
    have n4_ := Aside0.mk (blk_below (g := gb957) (o := .cells #[.int .i64 t953, .slice Ao27 t954.length co27] 94 (0, 0)) (by (with_reducible repeat (first | refine blk_drewN ?_ _ | refine blk_drew ?_ | refine blk_alloc ?_ _)); exact BK957.out) hb)
    have n5_ := Aside0.mk (below_step (by repeat (first | (with_reducible first | exact HB.out | apply below_alloc | apply pw_below_drewN | apply below_drew1 | refine below_set ?_ GE946.out | refine below_set ?_ GE957.out) | exact HB.out)) hb)
    clear HO951
    clear HO956
    clear BK946
    clear BK957
    clear HB
    have HO951 := n0_
    have HO956 := n1_
    have HO962 := n2_
    have BK946 := n3_
    have BK957 := n4_
    have HB := n5_
    clear n0_ n1_ n2_ n3_ n4_ n5_
    (try clear hb)
    (try clear hb2)
    (try clear hk)
    (try clear hi)
    (try clear ho0)
    obtain ⟨Ao31, co31, eo31⟩ := Kd.R_slice HO962.out
    (first | subst eo31 | (injection eo31 with f1_ f2_ f3_; have f4_ := f1_.symm; have f5_ := f3_.symm; clear f1_ f2_ f3_; subst f4_; subst f5_))
    refine hK.out _ _ ⟨(blk_cell BK957.out 0).trans rfl, (blk_cell BK957.out 1).trans rfl, (blk_cell BK946.out 0).trans rfl, (blk_cell BK946.out 1).trans rfl⟩ (fun hHeld => ?_)
    clear hK K
    refine norm_ (a' := ?_) ?_ ?_
    rotate_left
    ·show Act.put _ (some 24) _ = _
     simp only [Act.put, List.setIfInBounds_toArray, List.set_cons_zero, List.set_cons_succ, i64_w, i32_w]
     rfl
    refine one_ (i := 3) (N := some 25) #[true, true, true, true, false] rfl rfl (by kernel_rfl) (by decide) (fun K hK => ?_)
    refine goes_ Try.func72 (by kernel_rfl) rfl #[.agg #[.int .i64 t953, .slice Ao27 t954.length co27], .agg #[.int .i64 t959, .slice Ao31 t960.length co31]] (by rfl) rfl rfl (by (try simp only [List.map_toArray, List.map_cons, List.map_nil]); first | done | rfl | (simp only [List.length_drop, List.length_take]; rfl)) ?_
    with_reducible refine (laws_eqStream.calls k t953 _ _ t954 t959 _ _ t960 true _ ?side1 ?side2 ?side3 ?side4 A13.out).mono ?_
    (case side1 => repeat (first | exact (Kd.R_reads' HO956.out).2.2 | (with_reducible refine Kd.C_alloc ?_ _) | (with_reducible refine Kd.C_drewN ?_ _) | (with_reducible refine Kd.C_drew ?_)))
    (case side2 => exact (Kd.R_reads' HO956.out).2.1)
    (case side3 => repeat (first | exact (Kd.R_reads' HO962.out).2.2 | (with_reducible refine Kd.C_alloc ?_ _) | (with_reducible refine Kd.C_drewN ?_ _) | (with_reducible refine Kd.C_drew ?_)))
    (case side4 => exact (Kd.R_reads' HO962.out).2.1)
    rintro e w32 ⟨rfl, hb⟩
    refine ⟨_, rfl, ?_⟩
    have n0_ := Aside0.mk (Kd.R_below (by (with_reducible repeat (first | apply Kd.R_alloc | apply Kd.R_drewN | apply Kd.R_drew)); exact HO951.out) hb)
    have n1_ := Aside0.mk (Kd.R_below (by (with_reducible repeat (first | apply Kd.R_alloc | apply Kd.R_drewN | apply Kd.R_drew)); exact HO956.out) hb)
    have n2_ := Aside0.mk (Kd.R_below (by (with_reducible repeat (first | apply Kd.R_alloc | apply Kd.R_drewN | apply Kd.R_drew)); exact HO962.out) hb)
    have n3_ := Aside0.mk (blk_below (g := gb946) (o := .cells #[.int .i64 a0_0, .slice A0_1 l0_1.length c0_1] 89 (0, 0)) (by (with_reducible repeat (first | refine blk_drewN ?_ _ | refine blk_drew ?_ | refine blk_alloc ?_ _)); exact BK946.out) hb)
    have n4_ := Aside0.mk (blk_below (g := gb957) (o := .cells #[.int .i64 t953, .slice Ao27 t954.length co27] 94 (0, 0)) (by (with_reducible repeat (first | refine blk_drewN ?_ _ | refine blk_drew ?_ | refine blk_alloc ?_ _)); exact BK957.out) hb)
    have n5_ := Aside0.mk (below_step (by repeat (first | (with_reducible first | exact HB.out | apply below_alloc | apply pw_below_drewN | apply below_drew1 | refine below_set ?_ GE946.out | refine below_set ?_ GE957.out) | exact HB.out)) hb)
    clear HO951
    clear HO956
    clear HO962
    clear BK946
    clear BK957
    clear HB
    have HO951 := n0_
    have HO956 := n1_
    have HO962 := n2_
    have BK946 := n3_
    have BK957 := n4_
    have HB := n5_
    clear n0_ n1_ n2_ n3_ n4_ n5_
    (try clear hb)
    (try clear hb2)
    (try clear hk)
    (try clear hi)
    refine hK.out _ _ ⟨(blk_cell BK957.out 0).trans rfl, (blk_cell BK957.out 1).trans rfl, (blk_cell BK946.out 0).trans rfl, (blk_cell BK946.out 1).trans rfl⟩ (fun hHeld => ?_)
    clear hK K
    refine norm_ (a' := ?_) ?_ ?_
    rotate_left
    ·show Act.put _ (some 25) _ = _
     simp only [Act.put, List.setIfInBounds_toArray, List.set_cons_zero, List.set_cons_succ, i64_w, i32_w]
     rfl
    refine pure_ (i := 4) (N := some 26) (v := ?_) (a' := ?_) #[true, true, true, true, true] rfl rfl (by kernel_rfl) (fun _ _ _ h => h) (Or.inl ⟨by rfl, ?_⟩) ?_ ?_
    rotate_left
    ·intro w'
     go_simp
     with_reducible rfl
    rotate_left
    ·simp only [Act.put, List.setIfInBounds_toArray, List.set_cons_zero, List.set_cons_succ, i64_w, i32_w]
     rfl
    refine done_ (by kernel_rfl) ?_
    try go_wp2
    go_ret
    exact ⟨by first | rfl | (simp [errW_none, errW_some] <;> rfl) | (simp [*, errW_none, errW_some] <;> rfl), by repeat (first | (with_reducible first | exact HB.out | apply below_alloc | apply pw_below_drewN | apply below_drew1 | refine below_set ?_ GE946.out | refine below_set ?_ GE957.out) | exact HB.out)⟩
   ·replace c14 := Bool.eq_false_iff.mpr c14
    subst c14
    have H1 : (some false) = some true := by first | (with_reducible rfl) | (rw [if_neg (show ¬ (false = true) by decide)] at H; exact H)
    clear H
    have H := H1
    clear H1
    exact absurd H (by simp)

/-- THE ONE PURE STATEMENT of laws_FnExactGoodStream. -/
def laws_FnExactGoodStream.Pure : Prop := ∀ x0 : S89, wf89 x0 → ∃ k, laws_FnExactGoodStream.f k x0.f0 x0.f1 = some true

end Go.Proofs.Ytcbikaoackbbjaa.G
