/- Written by a program of this claim's own, out of the translation: functions of the program as plain functions, and that the calls answer as these. No conditions. -/
import Derived.Test.YtpbpglbldgpckaaG0
import Derived.Test.YtpbpglbldgpckaaG46
import Derived.Test.YtpbpglbldgpckaaG52
import Derived.Test.YtpbpglbldgpckaaG61
namespace Go.Proofs.Ytpbpglbldgpckaa.G
open Go.RowKit Go.Proofs.Ytpbpglbldgpckaa.X Go.Proofs.YtpbpglbldgpckaaW.PrintWords Go.Proofs.YtpbpglbldgpckaaW.PrintLast Go.Proofs.YtpbpglbldgpckaaW.PrintMore
attribute [local go_sem] max2_int min2_int max_two min_two max_three min_three max_four min_four   -- for this text's walks alone
set_option linter.unusedVariables false
set_option linter.unusedSimpArgs false

/-! ### laws_FnExactTotalIn: function 14 -/
def laws_FnExactTotalIn.f (k : Nat) (l0_0 : List (S181)) (l0_1 : List (S179)) : Option (Bool) := (laws_szSnap.f k l0_0 l0_1 1048576).bind fun t1178 => (if t1178 < 0 then (some true) else ((laws_toSnap.f k l0_0 l0_1).bind fun bt1179 => ((spec_TotalIn.f k bt1179.1 bt1179.2).bind fun bt1185 => ((laws_toSnap.f k l0_0 l0_1).bind fun bt1187 => ((impl_TotalIn.f k bt1187.1 bt1187.2).bind fun bt1194 => (if bt1194.1 = bt1185.1 then (if (bt1194.2 != bt1185.2) = true then (some false) else ((laws_toSnap.f k l0_0 l0_1).bind fun bt1196 => ((laws_eqSnap.f k bt1187.1 bt1187.2 bt1196.1 bt1196.2).bind fun t1202 => (if t1202 = true then (some true) else (some false))))) else (some false)))))))
theorem laws_FnExactTotalIn.mono : ∀ a0 a1 k, LeO (laws_FnExactTotalIn.f k a0 a1) (laws_FnExactTotalIn.f (k + 1) a0 a1) := by
 intro a0 a1 k
 unfold laws_FnExactTotalIn.f
 repeat' first
   | (with_reducible exact impl_TotalIn.mono _ _ _)
   | (with_reducible exact laws_eqSnap.mono _ _ _ _ _)
   | (with_reducible exact laws_szSnap.mono _ _ _ _)
   | (with_reducible exact laws_toSnap.mono _ _ _)
   | (with_reducible exact spec_TotalIn.mono _ _ _)
   | (with_reducible exact LeO.refl _)
   | (with_reducible exact LeO.none _)
   | (with_reducible refine LeO.ite ?_ ?_)
   | (with_reducible refine LeO.bind ?_ (fun _ => ?_))
   | exact impl_TotalIn.mono _ _ _
   | exact laws_eqSnap.mono _ _ _ _ _
   | exact laws_szSnap.mono _ _ _ _
   | exact laws_toSnap.mono _ _ _
   | exact spec_TotalIn.mono _ _ _
   | exact LeO.none _
   | refine LeO.ite ?_ ?_
   | refine LeO.bind ?_ (fun _ => ?_)
set_option maxHeartbeats 8000000 in
set_option maxRecDepth 100000 in
theorem laws_FnExactTotalIn.calls (k : Nat) (A0_0 : Option Addr) (c0_0 : Nat) (l0_0 : List (S181)) (A0_1 : Option Addr) (c0_1 : Nat) (l0_1 : List (S179)) (w : World) (hr0_0 : Kd.C k181 w A0_0 l0_0.length l0_0) (hc0_0 : l0_0.length ≤ c0_0) (hr0_1 : Kd.C k179 w A0_1 l0_1.length l0_1) (hc0_1 : l0_1.length ≤ c0_1) (h : laws_FnExactTotalIn.f k l0_0 l0_1 = some true) :
  Calls Try.prog 14 #[.agg #[.slice A0_0 l0_0.length c0_0, .slice A0_1 l0_1.length c0_1]] w fun e w' => e = .returned (.bool true) ∧ Below w.heap.size w w' := by
 have hu79 := Try.underlying79
 have hu85 := Try.underlying85
 have HR0_0 := Aside0.mk hr0_0
 have HC0_0 := Aside0.mk hc0_0
 clear hr0_0 hc0_0
 have HR0_1 := Aside0.mk hr0_1
 have HC0_1 := Aside0.mk hc0_1
 clear hr0_1 hc0_1
 have HB := Aside0.mk (Below.refl w.heap.size w)
 have H : ((laws_szSnap.f k l0_0 l0_1 1048576).bind fun t1178 => (if t1178 < 0 then (some true) else ((laws_toSnap.f k l0_0 l0_1).bind fun bt1179 => ((spec_TotalIn.f k bt1179.1 bt1179.2).bind fun bt1185 => ((laws_toSnap.f k l0_0 l0_1).bind fun bt1187 => ((impl_TotalIn.f k bt1187.1 bt1187.2).bind fun bt1194 => (if bt1194.1 = bt1185.1 then (if (bt1194.2 != bt1185.2) = true then (some false) else ((laws_toSnap.f k l0_0 l0_1).bind fun bt1196 => ((laws_eqSnap.f k bt1187.1 bt1187.2 bt1196.1 bt1196.2).bind fun t1202 => (if t1202 = true then (some true) else (some false))))) else (some false)))))))) = some true := h
 clear h
 replace H := Option.bind_eq_some_iff.mp H
 obtain ⟨t1178, A20, H⟩ := H
 replace H : (if t1178 < 0 then (some true) else ((laws_toSnap.f k l0_0 l0_1).bind fun bt1179 => ((spec_TotalIn.f k bt1179.1 bt1179.2).bind fun bt1185 => ((laws_toSnap.f k l0_0 l0_1).bind fun bt1187 => ((impl_TotalIn.f k bt1187.1 bt1187.2).bind fun bt1194 => (if bt1194.1 = bt1185.1 then (if (bt1194.2 != bt1185.2) = true then (some false) else ((laws_toSnap.f k l0_0 l0_1).bind fun bt1196 => ((laws_eqSnap.f k bt1187.1 bt1187.2 bt1196.1 bt1196.2).bind fun t1202 => (if t1202 = true then (some true) else (some false))))) else (some false))))))) = some true := H
 have A2 := Aside0.mk A20
 clear A20
 by_cases c3 : t1178 < 0
 ·rw [if_pos c3] at H
  have c3b0 : decide (t1178 < 0) = true := decide_eq_true c3
  clear c3
  clear H
  go_enter Try.func14, Try.ntmps14
  go_wp2_with (first | ((with_reducible refine gate_dst (N := 1) rfl ?_); refine box_event ?hg (N := 1) ?hd (cs := #[.slice A0_0 l0_0.length c0_0, .slice A0_1 l0_1.length c0_1]) (t := 79) ?hr ?_; (case hd => rfl); (case hg => rfl); (case hr => first | (go_simp; done) | (go_simp; rfl)); intro gb1177 hg w4 hbox hb; have n0_ := Aside0.mk (below_step (by repeat (first | (with_reducible first | exact HB.out | apply below_alloc | apply pw_below_drewN | apply below_drew1) | exact HB.out)) hb); have n1_ := Aside0.mk (hbox); have n2_ := Aside0.mk ((by rw [hg]; exact (below_size (by repeat (first | (with_reducible first | exact HB.out | apply below_alloc | apply pw_below_drewN | apply below_drew1) | exact HB.out))) : w.heap.size ≤ gb1177)); have n3_ := Aside0.mk ((by rw [hg]; exact (below_size (by repeat (first | (with_reducible first | exact HB.out | apply below_alloc | apply pw_below_drewN | apply below_drew1) | exact HB.out))) : w.heap.size ≤ gb1177)); clear HB; have HB := n0_; have BK1177 := n1_; have GW1177 := n2_; have GE1177 := n3_; clear n0_ n1_ n2_ n3_; clear hb hbox hg; have hcz5_0 : w4.cell? ⟨gb1177, 0, none⟩ = some (.slice A0_0 l0_0.length c0_0) := (blk_cell BK1177.out 0).trans rfl; have hcz5_1 : w4.cell? ⟨gb1177, 1, none⟩ = some (.slice A0_1 l0_1.length c0_1) := (blk_cell BK1177.out 1).trans rfl; have hfz5_0 := blk_frozen BK1177.out 0; have hfz5_1 := blk_frozen BK1177.out 1) | ((with_reducible refine gate_callee (f := 55) rfl ?_); refine goesL_ (some 11) rfl rfl Try.func55 (by kernel_rfl) rfl #[.agg #[.slice A0_0 l0_0.length c0_0, .slice A0_1 l0_1.length c0_1], .int .i64 1048576] rfl (by (try simp only [List.map_toArray, List.map_cons, List.map_nil]); first | done | rfl | (simp only [List.length_drop, List.length_take]; rfl)) ?_; (with_reducible refine (laws_szSnap.calls k _ _ l0_0 _ _ l0_1 1048576 t1178 _ ?side1 ?side2 ?side3 ?side4 A2.out).mono ?_); (case side1 => repeat (first | exact (Kd.C_below HR0_0.out HB.out) | (with_reducible refine Kd.C_alloc ?_ _) | (with_reducible refine Kd.C_drewN ?_ _) | (with_reducible refine Kd.C_drew ?_))); (case side2 => exact HC0_0.out); (case side3 => repeat (first | exact (Kd.C_below HR0_1.out HB.out) | (with_reducible refine Kd.C_alloc ?_ _) | (with_reducible refine Kd.C_drewN ?_ _) | (with_reducible refine Kd.C_drew ?_))); (case side4 => exact HC0_1.out); rintro e w6 ⟨rfl, hb⟩; refine ⟨_, rfl, ?_⟩; have n0_ := Aside0.mk (blk_below (g := gb1177) (o := .cells #[.slice A0_0 l0_0.length c0_0, .slice A0_1 l0_1.length c0_1] 79 (0, 0)) (by (with_reducible repeat (first | refine blk_drewN ?_ _ | refine blk_drew ?_ | refine blk_alloc ?_ _)); exact BK1177.out) hb); have n1_ := Aside0.mk (below_step (by repeat (first | (with_reducible first | exact HB.out | apply below_alloc | apply pw_below_drewN | apply below_drew1 | refine below_set ?_ GE1177.out) | exact HB.out)) hb); clear BK1177; clear HB; have BK1177 := n0_; have HB := n1_; clear n0_ n1_; (try clear hb); (try clear hb2); (try clear hk); (try clear hi)))
  go_ret
  exact ⟨by first | rfl | (simp [errW_none, errW_some] <;> rfl) | (simp [*, errW_none, errW_some] <;> rfl), by repeat (first | (with_reducible first | exact HB.out | apply below_alloc | apply pw_below_drewN | apply below_drew1 | refine below_set ?_ GE1177.out) | exact HB.out)⟩
 ·rw [if_neg c3] at H
  have c3b0 : decide (t1178 < 0) = false := decide_eq_false c3
  clear c3
  replace H := Option.bind_eq_some_iff.mp H
  obtain ⟨⟨t1179, t1182⟩, A70, H⟩ := H
  replace H : ((spec_TotalIn.f k t1179 t1182).bind fun bt1185 => ((laws_toSnap.f k l0_0 l0_1).bind fun bt1187 => ((impl_TotalIn.f k bt1187.1 bt1187.2).bind fun bt1194 => (if bt1194.1 = bt1185.1 then (if (bt1194.2 != bt1185.2) = true then (some false) else ((laws_toSnap.f k l0_0 l0_1).bind fun bt1196 => ((laws_eqSnap.f k bt1187.1 bt1187.2 bt1196.1 bt1196.2).bind fun t1202 => (if t1202 = true then (some true) else (some false))))) else (some false))))) = some true := H
  have A7 := Aside0.mk A70
  clear A70
  replace H := Option.bind_eq_some_iff.mp H
  obtain ⟨⟨t1185, t1186⟩, A80, H⟩ := H
  replace H : ((laws_toSnap.f k l0_0 l0_1).bind fun bt1187 => ((impl_TotalIn.f k bt1187.1 bt1187.2).bind fun bt1194 => (if bt1194.1 = t1185 then (if (bt1194.2 != t1186) = true then (some false) else ((laws_toSnap.f k l0_0 l0_1).bind fun bt1196 => ((laws_eqSnap.f k bt1187.1 bt1187.2 bt1196.1 bt1196.2).bind fun t1202 => (if t1202 = true then (some true) else (some false))))) else (some false)))) = some true := H
  have A8 := Aside0.mk A80
  clear A80
  replace H := Option.bind_eq_some_iff.mp H
  obtain ⟨⟨t1187, t1190⟩, A90, H⟩ := H
  replace H : ((impl_TotalIn.f k t1187 t1190).bind fun bt1194 => (if bt1194.1 = t1185 then (if (bt1194.2 != t1186) = true then (some false) else ((laws_toSnap.f k l0_0 l0_1).bind fun bt1196 => ((laws_eqSnap.f k t1187 t1190 bt1196.1 bt1196.2).bind fun t1202 => (if t1202 = true then (some true) else (some false))))) else (some false))) = some true := H
  have A9 := Aside0.mk A90
  clear A90
  replace H := Option.bind_eq_some_iff.mp H
  obtain ⟨⟨t1194, t1195⟩, A100, H⟩ := H
  replace H : (if t1194 = t1185 then (if (t1195 != t1186) = true then (some false) else ((laws_toSnap.f k l0_0 l0_1).bind fun bt1196 => ((laws_eqSnap.f k t1187 t1190 bt1196.1 bt1196.2).bind fun t1202 => (if t1202 = true then (some true) else (some false))))) else (some false)) = some true := H
  have A10 := Aside0.mk A100
  clear A100
  by_cases c11 : t1194 = t1185
  ·rw [if_pos c11] at H
   have c11b0 : (t1194 == t1185) = true := beq_iff_eq.mpr c11
   have c11b1 : (t1194 != t1185) = false := bne_eq_false_iff_eq.mpr c11
   clear c11
   by_cases c12 : (t1195 != t1186) = true
   ·rw [if_pos c12] at H
    have c12b0 : (t1195 != t1186) = true := c12
    (try (have c12b1 : decide (t1195 = t1186) = false := by simpa using c12))
    (try (have c12b2 : (t1195 == t1186) = false := by simpa using c12))
    (try (have c12b3 : ¬ (t1195 = t1186) := by simpa using c12))
    clear c12
    exact absurd H (by simp)
   ·rw [if_neg c12] at H
    have c12b0 : (t1195 != t1186) = false := by simpa using c12
    (try (have c12b1 : decide (t1195 = t1186) = true := by simpa using c12))
    (try (have c12b2 : (t1195 == t1186) = true := by simpa using c12))
    clear c12
    replace H := Option.bind_eq_some_iff.mp H
    obtain ⟨⟨t1196, t1199⟩, A130, H⟩ := H
    replace H : ((laws_eqSnap.f k t1187 t1190 t1196 t1199).bind fun t1202 => (if t1202 = true then (some true) else (some false))) = some true := H
    have A13 := Aside0.mk A130
    clear A130
    replace H := Option.bind_eq_some_iff.mp H
    obtain ⟨t1202, A140, H⟩ := H
    replace H : (if t1202 = true then (some true) else (some false)) = some true := H
    have A14 := Aside0.mk A140
    clear A140
    by_cases c15 : t1202 = true
    ·subst c15
     have H1 : (some true) = some true := by first | (with_reducible rfl) | (rw [if_pos rfl] at H; exact H)
     clear H
     have H := H1
     clear H1
     clear H
     go_enter Try.func14, Try.ntmps14
     try go_wp2_with (first | ((with_reducible refine gate_dst (N := 1) rfl ?_); refine box_event ?hg (N := 1) ?hd (cs := #[.slice A0_0 l0_0.length c0_0, .slice A0_1 l0_1.length c0_1]) (t := 79) ?hr ?_; (case hd => rfl); (case hg => rfl); (case hr => first | (go_simp; done) | (go_simp; rfl)); intro gb1177 hg w16 hbox hb; have n0_ := Aside0.mk (below_step (by repeat (first | (with_reducible first | exact HB.out | apply below_alloc | apply pw_below_drewN | apply below_drew1) | exact HB.out)) hb); have n1_ := Aside0.mk (hbox); have n2_ := Aside0.mk ((by rw [hg]; exact (below_size (by repeat (first | (with_reducible first | exact HB.out | apply below_alloc | apply pw_below_drewN | apply below_drew1) | exact HB.out))) : w.heap.size ≤ gb1177)); have n3_ := Aside0.mk ((by rw [hg]; exact (below_size (by repeat (first | (with_reducible first | exact HB.out | apply below_alloc | apply pw_below_drewN | apply below_drew1) | exact HB.out))) : w.heap.size ≤ gb1177)); clear HB; have HB := n0_; have BK1177 := n1_; have GW1177 := n2_; have GE1177 := n3_; clear n0_ n1_ n2_ n3_; clear hb hbox hg; have hcz17_0 : w16.cell? ⟨gb1177, 0, none⟩ = some (.slice A0_0 l0_0.length c0_0) := (blk_cell BK1177.out 0).trans rfl; have hcz17_1 : w16.cell? ⟨gb1177, 1, none⟩ = some (.slice A0_1 l0_1.length c0_1) := (blk_cell BK1177.out 1).trans rfl; have hfz17_0 := blk_frozen BK1177.out 0; have hfz17_1 := blk_frozen BK1177.out 1) | ((with_reducible refine gate_callee (f := 55) rfl ?_); refine goesL_ (some 11) rfl rfl Try.func55 (by kernel_rfl) rfl #[.agg #[.slice A0_0 l0_0.length c0_0, .slice A0_1 l0_1.length c0_1], .int .i64 1048576] rfl (by (try simp only [List.map_toArray, List.map_cons, List.map_nil]); first | done | rfl | (simp only [List.length_drop, List.length_take]; rfl)) ?_; (with_reducible refine (laws_szSnap.calls k _ _ l0_0 _ _ l0_1 1048576 t1178 _ ?side1 ?side2 ?side3 ?side4 A2.out).mono ?_); (case side1 => repeat (first | exact (Kd.C_below HR0_0.out HB.out) | (with_reducible refine Kd.C_alloc ?_ _) | (with_reducible refine Kd.C_drewN ?_ _) | (with_reducible refine Kd.C_drew ?_))); (case side2 => exact HC0_0.out); (case side3 => repeat (first | exact (Kd.C_below HR0_1.out HB.out) | (with_reducible refine Kd.C_alloc ?_ _) | (with_reducible refine Kd.C_drewN ?_ _) | (with_reducible refine Kd.C_drew ?_))); (case side4 => exact HC0_1.out); rintro e w18 ⟨rfl, hb⟩; refine ⟨_, rfl, ?_⟩; have n0_ := Aside0.mk (blk_below (g := gb1177) (o := .cells #[.slice A0_0 l0_0.length c0_0, .slice A0_1 l0_1.length c0_1] 79 (0, 0)) (by (with_reducible repeat (first | refine blk_drewN ?_ _ | refine blk_drew ?_ | refine blk_alloc ?_ _)); exact BK1177.out) hb); have n1_ := Aside0.mk (below_step (by repeat (first | (with_reducible first | exact HB.out | apply below_alloc | apply pw_below_drewN | apply below_drew1 | refine below_set ?_ GE1177.out) | exact HB.out)) hb); clear BK1177; clear HB; have BK1177 := n0_; have HB := n1_; clear n0_ n1_; (try clear hb); (try clear hb2); (try clear hk); (try clear hi); have hcz19_0 : w18.cell? ⟨gb1177, 0, none⟩ = some (.slice A0_0 l0_0.length c0_0) := (blk_cell BK1177.out 0).trans rfl; have hcz19_1 : w18.cell? ⟨gb1177, 1, none⟩ = some (.slice A0_1 l0_1.length c0_1) := (blk_cell BK1177.out 1).trans rfl; have hfz19_0 := blk_frozen BK1177.out 0; have hfz19_1 := blk_frozen BK1177.out 1) | ((with_reducible refine gate_callee (f := 57) rfl ?_); refine goesL_ (some 16) rfl rfl Try.func57 (by kernel_rfl) rfl #[.agg #[.slice A0_0 l0_0.length c0_0, .slice A0_1 l0_1.length c0_1]] rfl (by (try simp only [List.map_toArray, List.map_cons, List.map_nil]); first | done | rfl | (simp only [List.length_drop, List.length_take]; rfl)) ?_; (with_reducible refine (laws_toSnap.calls k _ _ l0_0 _ _ l0_1 t1179 t1182 _ ?side1 ?side2 ?side3 ?side4 A7.out).mono ?_); (case side1 => repeat (first | exact (Kd.C_below HR0_0.out HB.out) | (with_reducible refine Kd.C_alloc ?_ _) | (with_reducible refine Kd.C_drewN ?_ _) | (with_reducible refine Kd.C_drew ?_))); (case side2 => exact HC0_0.out); (case side3 => repeat (first | exact (Kd.C_below HR0_1.out HB.out) | (with_reducible refine Kd.C_alloc ?_ _) | (with_reducible refine Kd.C_drewN ?_ _) | (with_reducible refine Kd.C_drew ?_))); (case side4 => exact HC0_1.out); rintro e w20 ⟨v1180, v1183, rfl, ho0, ho1, hb⟩; refine ⟨_, rfl, ?_⟩; have n0_ := Aside0.mk (Kd.R_lower ho0 (below_size (by repeat (first | (with_reducible first | exact HB.out | apply below_alloc | apply pw_below_drewN | apply below_drew1 | refine below_set ?_ GE1177.out) | exact HB.out)))); have n1_ := Aside0.mk (Kd.S_lower ho1 (below_size (by repeat (first | (with_reducible first | exact HB.out | apply below_alloc | apply pw_below_drewN | apply below_drew1 | refine below_set ?_ GE1177.out) | exact HB.out)))); have n2_ := Aside0.mk (blk_below (g := gb1177) (o := .cells #[.slice A0_0 l0_0.length c0_0, .slice A0_1 l0_1.length c0_1] 79 (0, 0)) (by (with_reducible repeat (first | refine blk_drewN ?_ _ | refine blk_drew ?_ | refine blk_alloc ?_ _)); exact BK1177.out) hb); have n3_ := Aside0.mk (below_step (by repeat (first | (with_reducible first | exact HB.out | apply below_alloc | apply pw_below_drewN | apply below_drew1 | refine below_set ?_ GE1177.out) | exact HB.out)) hb); clear BK1177; clear HB; have HO1181 := n0_; have HO1184 := n1_; have BK1177 := n2_; have HB := n3_; clear n0_ n1_ n2_ n3_; (try clear hb); (try clear hb2); (try clear hk); (try clear hi); (try clear ho0); (try clear ho1); obtain ⟨Ao21, co21, eo21⟩ := Kd.R_slice HO1181.out; subst eo21; obtain ⟨Ao22, co22, eo22⟩ := Kd.S_slice HO1184.out; subst eo22) | ((with_reducible refine gate_callee (f := 72) rfl ?_); refine goesL_ (some 17) rfl rfl Try.func72 (by kernel_rfl) rfl #[.agg #[.slice Ao21 t1179.length co21, .slice Ao22 t1182.length co22]] rfl (by (try simp only [List.map_toArray, List.map_cons, List.map_nil]); first | done | rfl | (simp only [List.length_drop, List.length_take]; rfl)) ?_; (with_reducible refine (spec_TotalIn.calls k _ _ t1179 _ _ t1182 t1185 t1186 _ ?side1 ?side2 ?side3 ?side4 A8.out).mono ?_); (case side1 => repeat (first | exact (Kd.R_reads' HO1181.out).2.2 | (with_reducible refine Kd.C_alloc ?_ _) | (with_reducible refine Kd.C_drewN ?_ _) | (with_reducible refine Kd.C_drew ?_))); (case side2 => exact (Kd.R_reads' HO1181.out).2.1); (case side3 => repeat (first | exact (Kd.S_reads' HO1184.out).2.2 | (with_reducible refine Kd.C_alloc ?_ _) | (with_reducible refine Kd.C_drewN ?_ _) | (with_reducible refine Kd.C_drew ?_))); (case side4 => exact (Kd.S_reads' HO1184.out).2.1); rintro e w23 ⟨rfl, hb⟩; refine ⟨_, rfl, ?_⟩; have n0_ := Aside0.mk (Kd.R_below (by (with_reducible repeat (first | apply Kd.R_alloc | apply Kd.R_drewN | apply Kd.R_drew)); exact HO1181.out) hb); have n1_ := Aside0.mk (Kd.S_below (by (with_reducible repeat (first | apply Kd.S_alloc | apply Kd.S_drewN | apply Kd.S_drew)); exact HO1184.out) hb); have n2_ := Aside0.mk (blk_below (g := gb1177) (o := .cells #[.slice A0_0 l0_0.length c0_0, .slice A0_1 l0_1.length c0_1] 79 (0, 0)) (by (with_reducible repeat (first | refine blk_drewN ?_ _ | refine blk_drew ?_ | refine blk_alloc ?_ _)); exact BK1177.out) hb); have n3_ := Aside0.mk (below_step (by repeat (first | (with_reducible first | exact HB.out | apply below_alloc | apply pw_below_drewN | apply below_drew1 | refine below_set ?_ GE1177.out) | exact HB.out)) hb); clear HO1181; clear HO1184; clear BK1177; clear HB; have HO1181 := n0_; have HO1184 := n1_; have BK1177 := n2_; have HB := n3_; clear n0_ n1_ n2_ n3_; (try clear hb); (try clear hb2); (try clear hk); (try clear hi); have hcz24_0 : w23.cell? ⟨gb1177, 0, none⟩ = some (.slice A0_0 l0_0.length c0_0) := (blk_cell BK1177.out 0).trans rfl; have hcz24_1 : w23.cell? ⟨gb1177, 1, none⟩ = some (.slice A0_1 l0_1.length c0_1) := (blk_cell BK1177.out 1).trans rfl; have hfz24_0 := blk_frozen BK1177.out 0; have hfz24_1 := blk_frozen BK1177.out 1) | ((with_reducible refine gate_callee (f := 57) rfl ?_); refine goesL_ (some 21) rfl rfl Try.func57 (by kernel_rfl) rfl #[.agg #[.slice A0_0 l0_0.length c0_0, .slice A0_1 l0_1.length c0_1]] rfl (by (try simp only [List.map_toArray, List.map_cons, List.map_nil]); first | done | rfl | (simp only [List.length_drop, List.length_take]; rfl)) ?_; (with_reducible refine (laws_toSnap.calls k _ _ l0_0 _ _ l0_1 t1187 t1190 _ ?side1 ?side2 ?side3 ?side4 A9.out).mono ?_); (case side1 => repeat (first | exact (Kd.C_below HR0_0.out HB.out) | (with_reducible refine Kd.C_alloc ?_ _) | (with_reducible refine Kd.C_drewN ?_ _) | (with_reducible refine Kd.C_drew ?_))); (case side2 => exact HC0_0.out); (case side3 => repeat (first | exact (Kd.C_below HR0_1.out HB.out) | (with_reducible refine Kd.C_alloc ?_ _) | (with_reducible refine Kd.C_drewN ?_ _) | (with_reducible refine Kd.C_drew ?_))); (case side4 => exact HC0_1.out); rintro e w25 ⟨v1188, v1191, rfl, ho0, ho1, hb⟩; refine ⟨_, rfl, ?_⟩; have n0_ := Aside0.mk (Kd.R_elder' (by (with_reducible repeat (first | apply Kd.R_alloc | apply Kd.R_drewN | apply Kd.R_drew)); exact HO1181.out) (Kd.R_base ho0) hb); have n1_ := Aside0.mk (Kd.S_elder' (by (with_reducible repeat (first | apply Kd.S_alloc | apply Kd.S_drewN | apply Kd.S_drew)); exact HO1184.out) (Kd.S_base ho1) hb); have n2_ := Aside0.mk (Kd.R_lower (Kd.R_new' ho0 (Kd.R_lt (by (with_reducible repeat (first | apply Kd.R_alloc | apply Kd.R_drewN | apply Kd.R_drew)); exact HO1181.out))) (below_size (by repeat (first | (with_reducible first | exact HB.out | apply below_alloc | apply pw_below_drewN | apply below_drew1 | refine below_set ?_ GE1177.out) | exact HB.out)))); have n3_ := Aside0.mk (Kd.S_lower (Kd.S_new' ho1 (Kd.S_lt (by (with_reducible repeat (first | apply Kd.S_alloc | apply Kd.S_drewN | apply Kd.S_drew)); exact HO1184.out))) (below_size (by repeat (first | (with_reducible first | exact HB.out | apply below_alloc | apply pw_below_drewN | apply below_drew1 | refine below_set ?_ GE1177.out) | exact HB.out)))); have n4_ := Aside0.mk (blk_below (g := gb1177) (o := .cells #[.slice A0_0 l0_0.length c0_0, .slice A0_1 l0_1.length c0_1] 79 (0, 0)) (by (with_reducible repeat (first | refine blk_drewN ?_ _ | refine blk_drew ?_ | refine blk_alloc ?_ _)); exact BK1177.out) hb); have n5_ := Aside0.mk (below_step (by repeat (first | (with_reducible first | exact HB.out | apply below_alloc | apply pw_below_drewN | apply below_drew1 | refine below_set ?_ GE1177.out) | exact HB.out)) hb); clear HO1181; clear HO1184; clear BK1177; clear HB; have HO1181 := n0_; have HO1184 := n1_; have HO1189 := n2_; have HO1192 := n3_; have BK1177 := n4_; have HB := n5_; clear n0_ n1_ n2_ n3_ n4_ n5_; (try clear hb); (try clear hb2); (try clear hk); (try clear hi); (try clear ho0); (try clear ho1)) | ((with_reducible refine gate_dst (N := 6) rfl ?_); refine box_event ?hg (N := 6) ?hd (cs := #[.slice none 0 0, .slice none 0 0]) (t := 85) ?hr ?_; (case hd => rfl); (case hg => rfl); (case hr => first | (go_simp; done) | (go_simp; rfl)); intro gb1193 hg w26 hbox hb; have n0_ := Aside0.mk (Kd.R_below (by (with_reducible repeat (first | apply Kd.R_alloc | apply Kd.R_drewN | apply Kd.R_drew)); exact HO1181.out) hb); have n1_ := Aside0.mk (Kd.S_below (by (with_reducible repeat (first | apply Kd.S_alloc | apply Kd.S_drewN | apply Kd.S_drew)); exact HO1184.out) hb); have n2_ := Aside0.mk (Kd.R_below (by (with_reducible repeat (first | apply Kd.R_alloc | apply Kd.R_drewN | apply Kd.R_drew)); exact HO1189.out) hb); have n3_ := Aside0.mk (Kd.S_below (by (with_reducible repeat (first | apply Kd.S_alloc | apply Kd.S_drewN | apply Kd.S_drew)); exact HO1192.out) hb); have n4_ := Aside0.mk (blk_below (g := gb1177) (o := .cells #[.slice A0_0 l0_0.length c0_0, .slice A0_1 l0_1.length c0_1] 79 (0, 0)) (by (with_reducible repeat (first | refine blk_drewN ?_ _ | refine blk_drew ?_ | refine blk_alloc ?_ _)); exact BK1177.out) hb); have n5_ := Aside0.mk (below_step (by repeat (first | (with_reducible first | exact HB.out | apply below_alloc | apply pw_below_drewN | apply below_drew1 | refine below_set ?_ GE1177.out) | exact HB.out)) hb); have n6_ := Aside0.mk (hbox); have n7_ := Aside0.mk ((by rw [hg]; exact (below_size (by repeat (first | (with_reducible first | exact HB.out | apply below_alloc | apply pw_below_drewN | apply below_drew1 | refine below_set ?_ GE1177.out) | exact HB.out))) : w.heap.size ≤ gb1193)); have n8_ := Aside0.mk ((by rw [hg]; exact (below_size (by repeat (first | (with_reducible first | exact HB.out | apply below_alloc | apply pw_below_drewN | apply below_drew1 | refine below_set ?_ GE1177.out) | exact HB.out))) : w.heap.size ≤ gb1193)); have n9_ := Aside0.mk ((by rw [hg]; exact Nat.ne_of_lt (blk_lt (g := gb1177) (o := .cells #[.slice A0_0 l0_0.length c0_0, .slice A0_1 l0_1.length c0_1] 79 (0, 0)) (by (with_reducible repeat (first | refine blk_drewN ?_ _ | refine blk_drew ?_ | refine blk_alloc ?_ _)); exact BK1177.out)) : gb1177 ≠ gb1193)); have n10_ := Aside0.mk ((by rw [hg]; exact Nat.ne_of_gt (blk_lt (g := gb1177) (o := .cells #[.slice A0_0 l0_0.length c0_0, .slice A0_1 l0_1.length c0_1] 79 (0, 0)) (by (with_reducible repeat (first | refine blk_drewN ?_ _ | refine blk_drew ?_ | refine blk_alloc ?_ _)); exact BK1177.out)) : gb1193 ≠ gb1177)); clear HO1181; clear HO1184; clear HO1189; clear HO1192; clear BK1177; clear HB; have HO1181 := n0_; have HO1184 := n1_; have HO1189 := n2_; have HO1192 := n3_; have BK1177 := n4_; have HB := n5_; have BK1193 := n6_; have GW1193 := n7_; have GE1193 := n8_; have NB1177_1193 := n9_; have NB1193_1177 := n10_; clear n0_ n1_ n2_ n3_ n4_ n5_ n6_ n7_ n8_ n9_ n10_; clear hb hbox hg; obtain ⟨Ao27, co27, eo27⟩ := Kd.R_slice HO1189.out; subst eo27; have hnb28 := NB1193_1177.out; have hnc28 := NB1177_1193.out; have hcz29_0 : w26.cell? ⟨gb1193, 0, none⟩ = some (.slice none 0 0) := (blk_cell BK1193.out 0).trans rfl; have hcz29_1 : w26.cell? ⟨gb1193, 1, none⟩ = some (.slice none 0 0) := (blk_cell BK1193.out 1).trans rfl; have hfz29_0 := blk_frozen BK1193.out 0; have hfz29_1 := blk_frozen BK1193.out 1; obtain ⟨Ao30, co30, eo30⟩ := Kd.S_slice HO1192.out; subst eo30) | ((with_reducible refine gate_callee (f := 73) rfl ?_); refine goesL_ (some 24) rfl rfl Try.func73 (by kernel_rfl) rfl #[.agg #[.slice Ao27 t1187.length co27, .slice Ao30 t1190.length co30]] rfl (by (try simp only [List.map_toArray, List.map_cons, List.map_nil]); first | done | rfl | (simp only [List.length_drop, List.length_take]; rfl)) ?_; (with_reducible refine (impl_TotalIn.calls k _ _ t1187 _ _ t1190 t1194 t1195 _ ?side1 ?side2 ?side3 ?side4 A10.out).mono ?_); (case side1 => refine (Kd.R_reads' (e := 138) (base := w.heap.size) (ok := fun k_ => (True ∧ some k_ ≠ (.slice Ao21 t1179.length co21 : Value).ownBlock)) (n := t1187.length) (c := co27) ?_).2.2; exact (by (with_reducible repeat (first | apply Kd.R_alloc | apply Kd.R_drewN | apply Kd.R_drew)); exact (Kd.R_mono (Kd.R_far (p := ⟨gb1193, 1, none⟩) (Kd.R_far (p := ⟨gb1193, 0, none⟩) (Kd.R_types HO1189.out BK1193.out (by decide)) (fun _ hk => hk.2) (.slice Ao27 t1187.length co27)) (fun _ hk => hk.2) (.slice Ao30 t1190.length co30)) (fun _ h_ => h_.1)))); (case side2 => exact (Kd.R_reads' HO1189.out).2.1); (case side3 => refine (Kd.S_reads' (e := 140) (base := w.heap.size) (ok := fun k_ => (True ∧ some k_ ≠ (.slice Ao22 t1182.length co22 : Value).ownBlock)) (n := t1190.length) (c := co30) ?_).2.2; exact (by (with_reducible repeat (first | apply Kd.S_alloc | apply Kd.S_drewN | apply Kd.S_drew)); exact (Kd.S_mono (Kd.S_far (p := ⟨gb1193, 1, none⟩) (Kd.S_far (p := ⟨gb1193, 0, none⟩) (Kd.S_types HO1192.out BK1193.out (by decide)) (fun _ hk => hk.2) (.slice Ao27 t1187.length co27)) (fun _ hk => hk.2) (.slice Ao30 t1190.length co30)) (fun _ h_ => h_.1)))); (case side4 => exact (Kd.S_reads' HO1192.out).2.1); rintro e w31 ⟨rfl, hb⟩; refine ⟨_, rfl, ?_⟩; have n0_ := Aside0.mk (Kd.R_below (by (with_reducible repeat (first | apply Kd.R_alloc | apply Kd.R_drewN | apply Kd.R_drew)); exact (Kd.R_mono (Kd.R_far (p := ⟨gb1193, 1, none⟩) (Kd.R_far (p := ⟨gb1193, 0, none⟩) (Kd.R_types HO1181.out BK1193.out (by decide)) (fun _ hk => hk.2) (.slice Ao27 t1187.length co27)) (fun _ hk => hk.2) (.slice Ao30 t1190.length co30)) (fun _ h_ => h_.1))) hb); have n1_ := Aside0.mk (Kd.S_below (by (with_reducible repeat (first | apply Kd.S_alloc | apply Kd.S_drewN | apply Kd.S_drew)); exact (Kd.S_mono (Kd.S_far (p := ⟨gb1193, 1, none⟩) (Kd.S_far (p := ⟨gb1193, 0, none⟩) (Kd.S_types HO1184.out BK1193.out (by decide)) (fun _ hk => hk.2) (.slice Ao27 t1187.length co27)) (fun _ hk => hk.2) (.slice Ao30 t1190.length co30)) (fun _ h_ => h_.1))) hb); have n2_ := Aside0.mk (Kd.R_below (by (with_reducible repeat (first | apply Kd.R_alloc | apply Kd.R_drewN | apply Kd.R_drew)); exact (Kd.R_mono (Kd.R_far (p := ⟨gb1193, 1, none⟩) (Kd.R_far (p := ⟨gb1193, 0, none⟩) (Kd.R_types HO1189.out BK1193.out (by decide)) (fun _ hk => hk.2) (.slice Ao27 t1187.length co27)) (fun _ hk => hk.2) (.slice Ao30 t1190.length co30)) (fun _ h_ => h_.1))) hb); have n3_ := Aside0.mk (Kd.S_below (by (with_reducible repeat (first | apply Kd.S_alloc | apply Kd.S_drewN | apply Kd.S_drew)); exact (Kd.S_mono (Kd.S_far (p := ⟨gb1193, 1, none⟩) (Kd.S_far (p := ⟨gb1193, 0, none⟩) (Kd.S_types HO1192.out BK1193.out (by decide)) (fun _ hk => hk.2) (.slice Ao27 t1187.length co27)) (fun _ hk => hk.2) (.slice Ao30 t1190.length co30)) (fun _ h_ => h_.1))) hb); have n4_ := Aside0.mk (blk_below (g := gb1177) (o := .cells #[.slice A0_0 l0_0.length c0_0, .slice A0_1 l0_1.length c0_1] 79 (0, 0)) (by (with_reducible repeat (first | refine blk_drewN ?_ _ | refine blk_drew ?_ | refine blk_alloc ?_ _)); refine blk_far ?_ NB1177_1193.out _; (with_reducible repeat (first | refine blk_drewN ?_ _ | refine blk_drew ?_ | refine blk_alloc ?_ _)); refine blk_far ?_ NB1177_1193.out _; (with_reducible repeat (first | refine blk_drewN ?_ _ | refine blk_drew ?_ | refine blk_alloc ?_ _)); exact BK1177.out) hb); have n5_ := Aside0.mk (blk_below (g := gb1193) (o := .cells #[.slice Ao27 t1187.length co27, .slice Ao30 t1190.length co30] 85 (0, 0)) (by (with_reducible repeat (first | refine blk_drewN ?_ _ | refine blk_drew ?_ | refine blk_alloc ?_ _)); refine blk_put (cs := #[.slice Ao27 t1187.length co27, .slice none 0 0]) ?_ 1 _ rfl; (with_reducible repeat (first | refine blk_drewN ?_ _ | refine blk_drew ?_ | refine blk_alloc ?_ _)); refine blk_put (cs := #[.slice none 0 0, .slice none 0 0]) ?_ 0 _ rfl; (with_reducible repeat (first | refine blk_drewN ?_ _ | refine blk_drew ?_ | refine blk_alloc ?_ _)); exact BK1193.out) hb); have n6_ := Aside0.mk (below_step (by repeat (first | (with_reducible first | exact HB.out | apply below_alloc | apply pw_below_drewN | apply below_drew1 | refine below_set ?_ GE1177.out | refine below_set ?_ GE1193.out) | exact HB.out)) hb); clear HO1181; clear HO1184; clear HO1189; clear HO1192; clear BK1177; clear BK1193; clear HB; have HO1181 := n0_; have HO1184 := n1_; have HO1189 := n2_; have HO1192 := n3_; have BK1177 := n4_; have BK1193 := n5_; have HB := n6_; clear n0_ n1_ n2_ n3_ n4_ n5_ n6_; (try clear hb); (try clear hb2); (try clear hk); (try clear hi)))
     have n0_ := Aside0.mk (Kd.R_drew HO1181.out)
     have n1_ := Aside0.mk (Kd.S_drew HO1184.out)
     have n2_ := Aside0.mk (Kd.R_drew HO1189.out)
     have n3_ := Aside0.mk (Kd.S_drew HO1192.out)
     have n4_ := Aside0.mk (blk_drew BK1177.out)
     have n5_ := Aside0.mk (blk_drew BK1193.out)
     have n6_ := Aside0.mk (below_drew1 HB.out)
     clear HO1181
     clear HO1184
     clear HO1189
     clear HO1192
     clear BK1177
     clear BK1193
     clear HB
     have HO1181 := n0_
     have HO1184 := n1_
     have HO1189 := n2_
     have HO1192 := n3_
     have BK1177 := n4_
     have BK1193 := n5_
     have HB := n6_
     clear n0_ n1_ n2_ n3_ n4_ n5_ n6_
     refine start_ (n := 5) (S := fun w' => w'.cell? ⟨gb1193, 0, none⟩ = some (.slice Ao27 t1187.length co27) ∧ w'.cell? ⟨gb1193, 1, none⟩ = some (.slice Ao30 t1190.length co30) ∧ w'.cell? ⟨gb1177, 0, none⟩ = some (.slice A0_0 l0_0.length c0_0) ∧ w'.cell? ⟨gb1177, 1, none⟩ = some (.slice A0_1 l0_1.length c0_1)) (ds := []) #[false, false, false, false, false] (by kernel_rfl) rfl rfl ⟨(blk_cell BK1193.out 0).trans rfl, (blk_cell BK1193.out 1).trans rfl, (blk_cell BK1177.out 0).trans rfl, (blk_cell BK1177.out 1).trans rfl⟩ (fun hHeld => ?_)
     generalize w31.drew = w32 at HO1181 HO1184 HO1189 HO1192 BK1177 BK1193 HB hHeld ⊢
     refine take_ (i := 0) (N := some 35) (v := ?_) (a' := ?_) #[true, false, false, false, false] rfl rfl (by kernel_rfl) (fun _ _ _ h => h) (Or.inl ⟨by rfl, ?_⟩) hHeld ?_ ?_
     rotate_left
     ·rintro w' ⟨s0, s1, s2, s3⟩
      go_simp
      with_reducible rfl
     rotate_left
     ·simp only [Act.put, List.setIfInBounds_toArray, List.set_cons_zero, List.set_cons_succ, i64_w, i32_w]
      rfl
     refine take_ (i := 1) (N := some 36) (v := ?_) (a' := ?_) #[true, true, false, false, false] rfl rfl (by kernel_rfl) (fun _ _ _ h => h) (Or.inl ⟨by rfl, ?_⟩) hHeld ?_ ?_
     rotate_left
     ·rintro w' ⟨s0, s1, s2, s3⟩
      go_simp
      with_reducible rfl
     rotate_left
     ·simp only [Act.put, List.setIfInBounds_toArray, List.set_cons_zero, List.set_cons_succ, i64_w, i32_w]
      rfl
     refine one_ (i := 2) (N := some 37) #[true, true, true, false, false] rfl rfl (by kernel_rfl) (by decide) (fun K hK => ?_)
     refine goes_ Try.func57 (by kernel_rfl) rfl #[.agg #[.slice A0_0 l0_0.length c0_0, .slice A0_1 l0_1.length c0_1]] (by rfl) rfl rfl (by (try simp only [List.map_toArray, List.map_cons, List.map_nil]); first | done | rfl | (simp only [List.length_drop, List.length_take]; rfl)) ?_
     with_reducible refine (laws_toSnap.calls k _ _ l0_0 _ _ l0_1 t1196 t1199 _ ?side1 ?side2 ?side3 ?side4 A13.out).mono ?_
     (case side1 => repeat (first | exact (Kd.C_below HR0_0.out HB.out) | (with_reducible refine Kd.C_alloc ?_ _) | (with_reducible refine Kd.C_drewN ?_ _) | (with_reducible refine Kd.C_drew ?_)))
     (case side2 => exact HC0_0.out)
     (case side3 => repeat (first | exact (Kd.C_below HR0_1.out HB.out) | (with_reducible refine Kd.C_alloc ?_ _) | (with_reducible refine Kd.C_drewN ?_ _) | (with_reducible refine Kd.C_drew ?_)))
     (case side4 => exact HC0_1.out)
     rintro e w33 ⟨v1197, v1200, rfl, ho0, ho1, hb⟩
     refine ⟨_, rfl, ?_⟩
     have n0_ := Aside0.mk (Kd.R_elder' (by (with_reducible repeat (first | apply Kd.R_alloc | apply Kd.R_drewN | apply Kd.R_drew)); exact HO1181.out) (Kd.R_base ho0) hb)
     have n1_ := Aside0.mk (Kd.S_elder' (by (with_reducible repeat (first | apply Kd.S_alloc | apply Kd.S_drewN | apply Kd.S_drew)); exact HO1184.out) (Kd.S_base ho1) hb)
     have n2_ := Aside0.mk (Kd.R_elder' (by (with_reducible repeat (first | apply Kd.R_alloc | apply Kd.R_drewN | apply Kd.R_drew)); exact HO1189.out) (Kd.R_base ho0) hb)
     have n3_ := Aside0.mk (Kd.S_elder' (by (with_reducible repeat (first | apply Kd.S_alloc | apply Kd.S_drewN | apply Kd.S_drew)); exact HO1192.out) (Kd.S_base ho1) hb)
     have n4_ := Aside0.mk (Kd.R_lower (Kd.R_new' (Kd.R_new' ho0 (Kd.R_lt (by (with_reducible repeat (first | apply Kd.R_alloc | apply Kd.R_drewN | apply Kd.R_drew)); exact HO1181.out))) (Kd.R_lt (by (with_reducible repeat (first | apply Kd.R_alloc | apply Kd.R_drewN | apply Kd.R_drew)); exact HO1189.out))) (below_size (by repeat (first | (with_reducible first | exact HB.out | apply below_alloc | apply pw_below_drewN | apply below_drew1 | refine below_set ?_ GE1177.out | refine below_set ?_ GE1193.out) | exact HB.out))))
     have n5_ := Aside0.mk (Kd.S_lower (Kd.S_new' (Kd.S_new' ho1 (Kd.S_lt (by (with_reducible repeat (first | apply Kd.S_alloc | apply Kd.S_drewN | apply Kd.S_drew)); exact HO1184.out))) (Kd.S_lt (by (with_reducible repeat (first | apply Kd.S_alloc | apply Kd.S_drewN | apply Kd.S_drew)); exact HO1192.out))) (below_size (by repeat (first | (with_reducible first | exact HB.out | apply below_alloc | apply pw_below_drewN | apply below_drew1 | refine below_set ?_ GE1177.out | refine below_set ?_ GE1193.out) | exact HB.out))))
     have n6_ := Aside0.mk (blk_below (g := gb1177) (o := .cells #[.slice A0_0 l0_0.length c0_0, .slice A0_1 l0_1.length c0_1] 79 (0, 0)) (by (with_reducible repeat (first | refine blk_drewN ?_ _ | refine blk_drew ?_ | refine blk_alloc ?_ _)); exact BK1177.out) hb)
     have n7_ := Aside0.mk (blk_below (g := gb1193) (o := .cells #[.slice Ao27 t1187.length co27, .slice Ao30 t1190.length co30] 85 (0, 0)) (by (with_reducible repeat (first | refine blk_drewN ?_ _ | refine blk_drew ?_ | refine blk_alloc ?_ _)); exact BK1193.out) hb)
     have n8_ := Aside0.mk (below_step (by repeat (first | (with_reducible first | exact HB.out | apply below_alloc | apply pw_below_drewN | apply below_drew1 | refine below_set ?_ GE1177.out | refine below_set ?_ GE1193.out) | exact HB.out)) hb)
     clear HO1181
     clear HO1184
     clear HO1189
     clear HO1192
     clear BK1177
     clear BK1193
     clear HB
     have HO1181 := n0_
     have HO1184 := n1_
     have HO1189 := n2_
     have HO1192 := n3_
     have HO1198 := n4_
     have HO1201 := n5_
     have BK1177 := n6_
     have BK1193 := n7_
     have HB := n8_
     clear n0_ n1_ n2_ n3_ n4_ n5_ n6_ n7_ n8_
     (try clear hb)
     (try clear hb2)
     (try clear hk)
     (try clear hi)
     (try clear ho0)
     (try clear ho1)
     obtain ⟨Ao34, co34, eo34⟩ := Kd.R_slice HO1198.out
     (first | subst eo34 | (injection eo34 with f1_ f2_ f3_; have f4_ := f1_.symm; have f5_ := f3_.symm; clear f1_ f2_ f3_; subst f4_; subst f5_))
     obtain ⟨Ao35, co35, eo35⟩ := Kd.S_slice HO1201.out
     (first | subst eo35 | (injection eo35 with f1_ f2_ f3_; have f4_ := f1_.symm; have f5_ := f3_.symm; clear f1_ f2_ f3_; subst f4_; subst f5_))
     refine hK.out _ _ ⟨(blk_cell BK1193.out 0).trans rfl, (blk_cell BK1193.out 1).trans rfl, (blk_cell BK1177.out 0).trans rfl, (blk_cell BK1177.out 1).trans rfl⟩ (fun hHeld => ?_)
     clear hK K
     refine norm_ (a' := ?_) ?_ ?_
     rotate_left
     ·show Act.put _ (some 37) _ = _
      simp only [Act.put, List.setIfInBounds_toArray, List.set_cons_zero, List.set_cons_succ, i64_w, i32_w]
      rfl
     refine one_ (i := 3) (N := some 38) #[true, true, true, true, false] rfl rfl (by kernel_rfl) (by decide) (fun K hK => ?_)
     refine goes_ Try.func59 (by kernel_rfl) rfl #[.agg #[.slice Ao27 t1187.length co27, .slice Ao30 t1190.length co30], .agg #[.slice Ao34 t1196.length co34, .slice Ao35 t1199.length co35]] (by rfl) rfl rfl (by (try simp only [List.map_toArray, List.map_cons, List.map_nil]); first | done | rfl | (simp only [List.length_drop, List.length_take]; rfl)) ?_
     with_reducible refine (laws_eqSnap.calls k _ _ t1187 _ _ t1190 _ _ t1196 _ _ t1199 true _ ?side1 ?side2 ?side3 ?side4 ?side5 ?side6 ?side7 ?side8 A14.out).mono ?_
     (case side1 => repeat (first | exact (Kd.R_reads' HO1189.out).2.2 | (with_reducible refine Kd.C_alloc ?_ _) | (with_reducible refine Kd.C_drewN ?_ _) | (with_reducible refine Kd.C_drew ?_)))
     (case side2 => exact (Kd.R_reads' HO1189.out).2.1)
     (case side3 => repeat (first | exact (Kd.S_reads' HO1192.out).2.2 | (with_reducible refine Kd.C_alloc ?_ _) | (with_reducible refine Kd.C_drewN ?_ _) | (with_reducible refine Kd.C_drew ?_)))
     (case side4 => exact (Kd.S_reads' HO1192.out).2.1)
     (case side5 => repeat (first | exact (Kd.R_reads' HO1198.out).2.2 | (with_reducible refine Kd.C_alloc ?_ _) | (with_reducible refine Kd.C_drewN ?_ _) | (with_reducible refine Kd.C_drew ?_)))
     (case side6 => exact (Kd.R_reads' HO1198.out).2.1)
     (case side7 => repeat (first | exact (Kd.S_reads' HO1201.out).2.2 | (with_reducible refine Kd.C_alloc ?_ _) | (with_reducible refine Kd.C_drewN ?_ _) | (with_reducible refine Kd.C_drew ?_)))
     (case side8 => exact (Kd.S_reads' HO1201.out).2.1)
     rintro e w36 ⟨rfl, hb⟩
     refine ⟨_, rfl, ?_⟩
     have n0_ := Aside0.mk (Kd.R_below (by (with_reducible repeat (first | apply Kd.R_alloc | apply Kd.R_drewN | apply Kd.R_drew)); exact HO1181.out) hb)
     have n1_ := Aside0.mk (Kd.S_below (by (with_reducible repeat (first | apply Kd.S_alloc | apply Kd.S_drewN | apply Kd.S_drew)); exact HO1184.out) hb)
     have n2_ := Aside0.mk (Kd.R_below (by (with_reducible repeat (first | apply Kd.R_alloc | apply Kd.R_drewN | apply Kd.R_drew)); exact HO1189.out) hb)
     have n3_ := Aside0.mk (Kd.S_below (by (with_reducible repeat (first | apply Kd.S_alloc | apply Kd.S_drewN | apply Kd.S_drew)); exact HO1192.out) hb)
     have n4_ := Aside0.mk (Kd.R_below (by (with_reducible repeat (first | apply Kd.R_alloc | apply Kd.R_drewN | apply Kd.R_drew)); exact HO1198.out) hb)
     have n5_ := Aside0.mk (Kd.S_below (by (with_reducible repeat (first | apply Kd.S_alloc | apply Kd.S_drewN | apply Kd.S_drew)); exact HO1201.out) hb)
     have n6_ := Aside0.mk (blk_below (g := gb1177) (o := .cells #[.slice A0_0 l0_0.length c0_0, .slice A0_1 l0_1.length c0_1] 79 (0, 0)) (by (with_reducible repeat (first | refine blk_drewN ?_ _ | refine blk_drew ?_ | refine blk_alloc ?_ _)); exact BK1177.out) hb)
     have n7_ := Aside0.mk (blk_below (g := gb1193) (o := .cells #[.slice Ao27 t1187.length co27, .slice Ao30 t1190.length co30] 85 (0, 0)) (by (with_reducible repeat (first | refine blk_drewN ?_ _ | refine blk_drew ?_ | refine blk_alloc ?_ _)); exact BK1193.out) hb)
     have n8_ := Aside0.mk (below_step (by repeat (first | (with_reducible first | exact HB.out | apply below_alloc | apply pw_below_drewN | apply below_drew1 | refine below_set ?_ GE1177.out | refine below_set ?_ GE1193.out) | exact HB.out)) hb)
     clear HO1181
     clear HO1184
     clear HO1189
     clear HO1192
     clear HO1198
     clear HO1201
     clear BK1177
     clear BK1193
     clear HB
     have HO1181 := n0_
     have HO1184 := n1_
     have HO1189 := n2_
     have HO1192 := n3_
     have HO1198 := n4_
     have HO1201 := n5_
     have BK1177 := n6_
     have BK1193 := n7_
     have HB := n8_
     clear n0_ n1_ n2_ n3_ n4_ n5_ n6_ n7_ n8_
     (try clear hb)
     (try clear hb2)
     (try clear hk)
     (try clear hi)
     refine hK.out _ _ ⟨(blk_cell BK1193.out 0).trans rfl, (blk_cell BK1193.out 1).trans rfl, (blk_cell BK1177.out 0).trans rfl, (blk_cell BK1177.out 1).trans rfl⟩ (fun hHeld => ?_)
     clear hK K
     refine norm_ (a' := ?_) ?_ ?_
     rotate_left
     ·show Act.put _ (some 38) _ = _
      simp only [Act.put, List.setIfInBounds_toArray, List.set_cons_zero, List.set_cons_succ, i64_w, i32_w]
      rfl
     refine pure_ (i := 4) (N := some 39) (v := ?_) (a' := ?_) #[true, true, true, true, true] rfl rfl (by kernel_rfl) (fun _ _ _ h => h) (Or.inl ⟨by rfl, ?_⟩) ?_ ?_
     rotate_left
     ·intro w'
      go_simp
      with_reducible rfl
     rotate_left
     ·simp only [Act.put, List.setIfInBounds_toArray, List.set_cons_zero, List.set_cons_succ, i64_w, i32_w]
      rfl
     refine done_ (by kernel_rfl) ?_
     try go_wp2
     go_ret
     exact ⟨by first | rfl | (simp [errW_none, errW_some] <;> rfl) | (simp [*, errW_none, errW_some] <;> rfl), by repeat (first | (with_reducible first | exact HB.out | apply below_alloc | apply pw_below_drewN | apply below_drew1 | refine below_set ?_ GE1177.out | refine below_set ?_ GE1193.out) | exact HB.out)⟩
    ·replace c15 := Bool.eq_false_iff.mpr c15
     subst c15
     have H1 : (some false) = some true := by first | (with_reducible rfl) | (rw [if_neg (show ¬ (false = true) by decide)] at H; exact H)
     clear H
     have H := H1
     clear H1
     exact absurd H (by simp)
  ·rw [if_neg c11] at H
   have c11b0 : (t1194 == t1185) = false := beq_eq_false_iff_ne.mpr c11
   have c11b1 : (t1194 != t1185) = true := bne_iff_ne.mpr c11
   exact absurd H (by simp)

/-- THE ONE PURE STATEMENT of laws_FnExactTotalIn. -/
def laws_FnExactTotalIn.Pure : Prop := ∀ x0 : S79, wf79 x0 → ∃ k, laws_FnExactTotalIn.f k x0.f0 x0.f1 = some true

end Go.Proofs.Ytpbpglbldgpckaa.G
