/- Written by a program of this claim's own, out of the translation: functions of the program as plain functions, and that the calls answer as these. No conditions. -/
import Derived.Test.YtcbikaoackbbjaaG0
import Derived.Test.YtcbikaoackbbjaaG1
import Derived.Test.YtcbikaoackbbjaaG7
import Derived.Test.YtcbikaoackbbjaaG17
import Derived.Test.YtcbikaoackbbjaaG25
import Derived.Test.YtcbikaoackbbjaaG45
import Derived.Test.YtcbikaoackbbjaaG46
namespace Go.Proofs.Ytcbikaoackbbjaa.G
open Go.RowKit Go.Proofs.Ytcbikaoackbbjaa.X Go.Proofs.YtcbikaoackbbjaaW.PrintWords Go.Proofs.YtcbikaoackbbjaaW.PrintLast Go.Proofs.YtcbikaoackbbjaaW.PrintMore
attribute [local go_sem] max2_int min2_int max_two min_two max_three min_three max_four min_four   -- for this text's walks alone
set_option linter.unusedVariables false
set_option linter.unusedSimpArgs false

/-! ### laws_FnExactWeightOf: function 14 -/
def laws_FnExactWeightOf.f (k : Nat) (a0_0 : Int) (l0_1 : List (S160)) (l1_0 : List Int) : Option (Bool) := (laws_szTable.f k a0_0 l0_1 1048576).bind fun t848 => (if t848 < 0 then (some true) else ((laws_szRow.f l1_0 t848).bind fun t849 => (if t849 < 0 then (some true) else ((laws_toTable.f k a0_0 l0_1).bind fun bt850 => ((laws_toRow.f k l1_0).bind fun t854 => ((spec_WeightOf.f k bt850.1 bt850.2 t854).bind fun bt857 => ((laws_toTable.f k a0_0 l0_1).bind fun bt859 => ((laws_toRow.f k l1_0).bind fun t864 => ((impl_WeightOf.f k bt859.1 bt859.2 t864).bind fun bt868 => (if bt868.1 = bt857.1 then (if (bt868.2 != bt857.2) = true then (some false) else ((laws_toTable.f k a0_0 l0_1).bind fun bt870 => ((laws_eqTable.f k bt859.1 bt859.2 bt870.1 bt870.2).bind fun t874 => (if t874 = true then ((laws_toRow.f k l1_0).bind fun t875 => ((laws_eqRow.f k t864 t875).bind fun t878 => (if t878 = true then (some true) else (some false)))) else (some false))))) else (some false)))))))))))
theorem laws_FnExactWeightOf.mono : ∀ a0 a1 a2 k, LeO (laws_FnExactWeightOf.f k a0 a1 a2) (laws_FnExactWeightOf.f (k + 1) a0 a1 a2) := by
 intro a0 a1 a2 k
 unfold laws_FnExactWeightOf.f
 repeat' first
   | (with_reducible exact impl_WeightOf.mono _ _ _ _)
   | (with_reducible exact laws_eqRow.mono _ _ _)
   | (with_reducible exact laws_eqTable.mono _ _ _ _ _)
   | (with_reducible exact laws_szTable.mono _ _ _ _)
   | (with_reducible exact laws_toRow.mono _ _)
   | (with_reducible exact laws_toTable.mono _ _ _)
   | (with_reducible exact spec_WeightOf.mono _ _ _ _)
   | (with_reducible exact LeO.refl _)
   | (with_reducible exact LeO.none _)
   | (with_reducible refine LeO.ite ?_ ?_)
   | (with_reducible refine LeO.bind ?_ (fun _ => ?_))
   | exact impl_WeightOf.mono _ _ _ _
   | exact laws_eqRow.mono _ _ _
   | exact laws_eqTable.mono _ _ _ _ _
   | exact laws_szTable.mono _ _ _ _
   | exact laws_toRow.mono _ _
   | exact laws_toTable.mono _ _ _
   | exact spec_WeightOf.mono _ _ _ _
   | exact LeO.none _
   | refine LeO.ite ?_ ?_
   | refine LeO.bind ?_ (fun _ => ?_)
def laws_FnExactWeightOf.T8 : Bool × List (List Nat × List Nat) := (true, [([], []), ([0], [0]), ([], []), ([2, 1], [2]), ([1, 3, 3], [1, 3]), ([4], [4]), ([5], [5]), ([5], [5]), ([6, 4, 0, 1, 2, 3, 4, 5, 6], [6]), ([7, 8, 0, 1, 2, 3, 4, 5, 6, 7, 8], [7])])
def laws_FnExactWeightOf.B8 : List Nat := [0, 1, 0, 7, 15, 31, 63, 63, 127, 511]
theorem laws_FnExactWeightOf.tab8 : rtab .any (opsOf Try.f14 8) = laws_FnExactWeightOf.T8 := by kernel_rfl
theorem laws_FnExactWeightOf.bits8 : waitsOk laws_FnExactWeightOf.T8.2 laws_FnExactWeightOf.B8 = true := by kernel_rfl
set_option maxHeartbeats 8000000 in
set_option maxRecDepth 100000 in
theorem laws_FnExactWeightOf.calls (k : Nat) (a0_0 : Int) (A0_1 : Option Addr) (c0_1 : Nat) (l0_1 : List (S160)) (A1_0 : Option Addr) (c1_0 : Nat) (l1_0 : List Int) (w : World) (hr0_1 : Kd.C k160 w A0_1 l0_1.length l0_1) (hc0_1 : l0_1.length ≤ c0_1) (hr1_0 : Kd.C (Kd.int .i64) w A1_0 l1_0.length l1_0) (hc1_0 : l1_0.length ≤ c1_0) (h : laws_FnExactWeightOf.f k a0_0 l0_1 l1_0 = some true) :
  Calls Try.prog 14 #[.agg #[.int .i64 a0_0, .slice A0_1 l0_1.length c0_1], .agg #[.slice A1_0 l1_0.length c1_0]] w fun e w' => e = .returned (.bool true) ∧ Below w.heap.size w w' := by
 have hu56 := Try.underlying56
 have hu24 := Try.underlying24
 have hu41 := Try.underlying41
 have hu26 := Try.underlying26
 have HR0_1 := xm hr0_1
 have HC0_1 := xm hc0_1
 clear hr0_1 hc0_1
 have HR1_0 := xm hr1_0
 have HC1_0 := xm hc1_0
 clear hr1_0 hc1_0
 have HB := xm (Below.refl w.heap.size w)
 have H : ((laws_szTable.f k a0_0 l0_1 1048576).bind fun t848 => (if t848 < 0 then (some true) else ((laws_szRow.f l1_0 t848).bind fun t849 => (if t849 < 0 then (some true) else ((laws_toTable.f k a0_0 l0_1).bind fun bt850 => ((laws_toRow.f k l1_0).bind fun t854 => ((spec_WeightOf.f k bt850.1 bt850.2 t854).bind fun bt857 => ((laws_toTable.f k a0_0 l0_1).bind fun bt859 => ((laws_toRow.f k l1_0).bind fun t864 => ((impl_WeightOf.f k bt859.1 bt859.2 t864).bind fun bt868 => (if bt868.1 = bt857.1 then (if (bt868.2 != bt857.2) = true then (some false) else ((laws_toTable.f k a0_0 l0_1).bind fun bt870 => ((laws_eqTable.f k bt859.1 bt859.2 bt870.1 bt870.2).bind fun t874 => (if t874 = true then ((laws_toRow.f k l1_0).bind fun t875 => ((laws_eqRow.f k t864 t875).bind fun t878 => (if t878 = true then (some true) else (some false)))) else (some false))))) else (some false)))))))))))) = some true := h
 clear h
 replace H := Option.bind_eq_some_iff.mp H
 obtain ⟨t848, A30, H⟩ := H
 (try dsimp only at H)
 have A3 := xm A30
 clear A30
 by_cases c4 : t848 < 0
 ·rw [if_pos c4] at H
  have c4b0 : decide (t848 < 0) = true := decide_eq_true c4
  clear c4
  clear H
  go_enter Try.func14, Try.ntmps14
  go_wp2_with (first | ((with_reducible refine gate_dst (N := 2) rfl ?_); refine box_event ?hg (N := 2) ?hd (cs := #[.int .i64 a0_0, .slice A0_1 l0_1.length c0_1]) (t := 56) ?hr ?_; (case hd => rfl); (case hg => rfl); (case hr => first | (go_simp; done) | (go_simp; rfl)); intro gb846 hg w5 hbox hb; have n0_ := xm (below_step (by repeat (first | (with_reducible first | exact HB.out | apply xa | apply xn | apply xd) | exact HB.out)) hb); have n1_ := xm (hbox); have n2_ := xm ((by rw [hg]; exact (xz (by repeat (first | (with_reducible first | exact HB.out | apply xa | apply xn | apply xd) | exact HB.out))) : w.heap.size ≤ gb846)); have n3_ := xm ((by rw [hg]; exact (xz (by repeat (first | (with_reducible first | exact HB.out | apply xa | apply xn | apply xd) | exact HB.out))) : w.heap.size ≤ gb846)); clear HB; have HB := n0_; have BK846 := n1_; have GW846 := n2_; have GE846 := n3_; clear n0_ n1_ n2_ n3_; clear hb hbox hg) | ((with_reducible refine gate_dst (N := 3) rfl ?_); refine box_event ?hg (N := 3) ?hd (cs := #[.slice A1_0 l1_0.length c1_0]) (t := 24) ?hr ?_; (case hd => rfl); (case hg => rfl); (case hr => first | (go_simp; done) | (go_simp; rfl)); intro gb847 hg w6 hbox hb; have n0_ := xm (blk_below (g := gb846) (o := .cells #[.int .i64 a0_0, .slice A0_1 l0_1.length c0_1] 56 (0, 0)) (by (with_reducible repeat (first | refine xq ?_ _ | refine xr ?_ | refine xo ?_ _)); exact BK846.out) hb); have n1_ := xm (below_step (by repeat (first | (with_reducible first | exact HB.out | apply xa | apply xn | apply xd | refine xt ?_ GE846.out) | exact HB.out)) hb); have n2_ := xm (hbox); have n3_ := xm ((by rw [hg]; exact (xz (by repeat (first | (with_reducible first | exact HB.out | apply xa | apply xn | apply xd | refine xt ?_ GE846.out) | exact HB.out))) : w.heap.size ≤ gb847)); have n4_ := xm ((by rw [hg]; exact (xz (by repeat (first | (with_reducible first | exact HB.out | apply xa | apply xn | apply xd | refine xt ?_ GE846.out) | exact HB.out))) : w.heap.size ≤ gb847)); have n5_ := xm ((by rw [hg]; exact Nat.ne_of_lt (blk_lt (g := gb846) (o := .cells #[.int .i64 a0_0, .slice A0_1 l0_1.length c0_1] 56 (0, 0)) (by (with_reducible repeat (first | refine xq ?_ _ | refine xr ?_ | refine xo ?_ _)); exact BK846.out)) : gb846 ≠ gb847)); have n6_ := xm ((by rw [hg]; exact Nat.ne_of_gt (blk_lt (g := gb846) (o := .cells #[.int .i64 a0_0, .slice A0_1 l0_1.length c0_1] 56 (0, 0)) (by (with_reducible repeat (first | refine xq ?_ _ | refine xr ?_ | refine xo ?_ _)); exact BK846.out)) : gb847 ≠ gb846)); clear BK846; clear HB; have BK846 := n0_; have HB := n1_; have BK847 := n2_; have GW847 := n3_; have GE847 := n4_; have NB846_847 := n5_; have NB847_846 := n6_; clear n0_ n1_ n2_ n3_ n4_ n5_ n6_; clear hb hbox hg; have hnb7 := NB846_847.out; have hnc7 := NB847_846.out; have hcz8_0 : w6.cell? ⟨gb846, 0, none⟩ = some (.int .i64 a0_0) := (xc BK846.out 0).trans rfl; have hcz8_1 : w6.cell? ⟨gb846, 1, none⟩ = some (.slice A0_1 l0_1.length c0_1) := (xc BK846.out 1).trans rfl; have hfz8_0 := xf BK846.out 0; have hfz8_1 := xf BK846.out 1) | ((with_reducible refine gate_callee (f := 40) rfl ?_); refine goesL_ (some 14) rfl rfl Try.func40 (by kernel_rfl) rfl #[.agg #[.int .i64 a0_0, .slice A0_1 l0_1.length c0_1], .int .i64 1048576] rfl (by (try simp only [List.map_toArray, List.map_cons, List.map_nil]); first | done | rfl | (simp only [List.length_drop, List.length_take]; rfl)) ?_; (with_reducible refine (laws_szTable.calls k a0_0 _ _ l0_1 1048576 t848 _ ?side1 ?side2 A3.out).mono ?_); (case side1 => repeat (first | exact (Kd.C_below HR0_1.out HB.out) | (with_reducible refine Kd.C_alloc ?_ _) | (with_reducible refine Kd.C_drewN ?_ _) | (with_reducible refine Kd.C_drew ?_))); (case side2 => exact HC0_1.out); rintro e w9 ⟨rfl, hb⟩; refine ⟨_, rfl, ?_⟩; have n0_ := xm (blk_below (g := gb846) (o := .cells #[.int .i64 a0_0, .slice A0_1 l0_1.length c0_1] 56 (0, 0)) (by (with_reducible repeat (first | refine xq ?_ _ | refine xr ?_ | refine xo ?_ _)); exact BK846.out) hb); have n1_ := xm (blk_below (g := gb847) (o := .cells #[.slice A1_0 l1_0.length c1_0] 24 (0, 0)) (by (with_reducible repeat (first | refine xq ?_ _ | refine xr ?_ | refine xo ?_ _)); exact BK847.out) hb); have n2_ := xm (below_step (by repeat (first | (with_reducible first | exact HB.out | apply xa | apply xn | apply xd | refine xt ?_ GE846.out | refine xt ?_ GE847.out) | exact HB.out)) hb); clear BK846; clear BK847; clear HB; have BK846 := n0_; have BK847 := n1_; have HB := n2_; clear n0_ n1_ n2_; (try clear hb); (try clear hb2); (try clear hk); (try clear hi)))
  go_ret
  exact ⟨by first | rfl | (simp [errW_none, errW_some] <;> rfl) | (simp [*, errW_none, errW_some] <;> rfl), by repeat (first | (with_reducible first | exact HB.out | apply xa | apply xn | apply xd | refine xt ?_ GE846.out | refine xt ?_ GE847.out) | exact HB.out)⟩
 ·rw [if_neg c4] at H
  have c4b0 : decide (t848 < 0) = false := decide_eq_false c4
  clear c4
  replace H := Option.bind_eq_some_iff.mp H
  obtain ⟨t849, A100, H⟩ := H
  (try dsimp only at H)
  have A10 := xm A100
  clear A100
  by_cases c11 : t849 < 0
  ·rw [if_pos c11] at H
   have c11b0 : decide (t849 < 0) = true := decide_eq_true c11
   clear c11
   clear H
   go_enter Try.func14, Try.ntmps14
   go_wp2_with (first | ((with_reducible refine gate_dst (N := 2) rfl ?_); refine box_event ?hg (N := 2) ?hd (cs := #[.int .i64 a0_0, .slice A0_1 l0_1.length c0_1]) (t := 56) ?hr ?_; (case hd => rfl); (case hg => rfl); (case hr => first | (go_simp; done) | (go_simp; rfl)); intro gb846 hg w12 hbox hb; have n0_ := xm (below_step (by repeat (first | (with_reducible first | exact HB.out | apply xa | apply xn | apply xd) | exact HB.out)) hb); have n1_ := xm (hbox); have n2_ := xm ((by rw [hg]; exact (xz (by repeat (first | (with_reducible first | exact HB.out | apply xa | apply xn | apply xd) | exact HB.out))) : w.heap.size ≤ gb846)); have n3_ := xm ((by rw [hg]; exact (xz (by repeat (first | (with_reducible first | exact HB.out | apply xa | apply xn | apply xd) | exact HB.out))) : w.heap.size ≤ gb846)); clear HB; have HB := n0_; have BK846 := n1_; have GW846 := n2_; have GE846 := n3_; clear n0_ n1_ n2_ n3_; clear hb hbox hg) | ((with_reducible refine gate_dst (N := 3) rfl ?_); refine box_event ?hg (N := 3) ?hd (cs := #[.slice A1_0 l1_0.length c1_0]) (t := 24) ?hr ?_; (case hd => rfl); (case hg => rfl); (case hr => first | (go_simp; done) | (go_simp; rfl)); intro gb847 hg w13 hbox hb; have n0_ := xm (blk_below (g := gb846) (o := .cells #[.int .i64 a0_0, .slice A0_1 l0_1.length c0_1] 56 (0, 0)) (by (with_reducible repeat (first | refine xq ?_ _ | refine xr ?_ | refine xo ?_ _)); exact BK846.out) hb); have n1_ := xm (below_step (by repeat (first | (with_reducible first | exact HB.out | apply xa | apply xn | apply xd | refine xt ?_ GE846.out) | exact HB.out)) hb); have n2_ := xm (hbox); have n3_ := xm ((by rw [hg]; exact (xz (by repeat (first | (with_reducible first | exact HB.out | apply xa | apply xn | apply xd | refine xt ?_ GE846.out) | exact HB.out))) : w.heap.size ≤ gb847)); have n4_ := xm ((by rw [hg]; exact (xz (by repeat (first | (with_reducible first | exact HB.out | apply xa | apply xn | apply xd | refine xt ?_ GE846.out) | exact HB.out))) : w.heap.size ≤ gb847)); have n5_ := xm ((by rw [hg]; exact Nat.ne_of_lt (blk_lt (g := gb846) (o := .cells #[.int .i64 a0_0, .slice A0_1 l0_1.length c0_1] 56 (0, 0)) (by (with_reducible repeat (first | refine xq ?_ _ | refine xr ?_ | refine xo ?_ _)); exact BK846.out)) : gb846 ≠ gb847)); have n6_ := xm ((by rw [hg]; exact Nat.ne_of_gt (blk_lt (g := gb846) (o := .cells #[.int .i64 a0_0, .slice A0_1 l0_1.length c0_1] 56 (0, 0)) (by (with_reducible repeat (first | refine xq ?_ _ | refine xr ?_ | refine xo ?_ _)); exact BK846.out)) : gb847 ≠ gb846)); clear BK846; clear HB; have BK846 := n0_; have HB := n1_; have BK847 := n2_; have GW847 := n3_; have GE847 := n4_; have NB846_847 := n5_; have NB847_846 := n6_; clear n0_ n1_ n2_ n3_ n4_ n5_ n6_; clear hb hbox hg; have hnb14 := NB846_847.out; have hnc14 := NB847_846.out; have hcz15_0 : w13.cell? ⟨gb846, 0, none⟩ = some (.int .i64 a0_0) := (xc BK846.out 0).trans rfl; have hcz15_1 : w13.cell? ⟨gb846, 1, none⟩ = some (.slice A0_1 l0_1.length c0_1) := (xc BK846.out 1).trans rfl; have hfz15_0 := xf BK846.out 0; have hfz15_1 := xf BK846.out 1) | ((with_reducible refine gate_callee (f := 40) rfl ?_); refine goesL_ (some 14) rfl rfl Try.func40 (by kernel_rfl) rfl #[.agg #[.int .i64 a0_0, .slice A0_1 l0_1.length c0_1], .int .i64 1048576] rfl (by (try simp only [List.map_toArray, List.map_cons, List.map_nil]); first | done | rfl | (simp only [List.length_drop, List.length_take]; rfl)) ?_; (with_reducible refine (laws_szTable.calls k a0_0 _ _ l0_1 1048576 t848 _ ?side1 ?side2 A3.out).mono ?_); (case side1 => repeat (first | exact (Kd.C_below HR0_1.out HB.out) | (with_reducible refine Kd.C_alloc ?_ _) | (with_reducible refine Kd.C_drewN ?_ _) | (with_reducible refine Kd.C_drew ?_))); (case side2 => exact HC0_1.out); rintro e w16 ⟨rfl, hb⟩; refine ⟨_, rfl, ?_⟩; have n0_ := xm (blk_below (g := gb846) (o := .cells #[.int .i64 a0_0, .slice A0_1 l0_1.length c0_1] 56 (0, 0)) (by (with_reducible repeat (first | refine xq ?_ _ | refine xr ?_ | refine xo ?_ _)); exact BK846.out) hb); have n1_ := xm (blk_below (g := gb847) (o := .cells #[.slice A1_0 l1_0.length c1_0] 24 (0, 0)) (by (with_reducible repeat (first | refine xq ?_ _ | refine xr ?_ | refine xo ?_ _)); exact BK847.out) hb); have n2_ := xm (below_step (by repeat (first | (with_reducible first | exact HB.out | apply xa | apply xn | apply xd | refine xt ?_ GE846.out | refine xt ?_ GE847.out) | exact HB.out)) hb); clear BK846; clear BK847; clear HB; have BK846 := n0_; have BK847 := n1_; have HB := n2_; clear n0_ n1_ n2_; (try clear hb); (try clear hb2); (try clear hk); (try clear hi); have hcz17_0 : w16.cell? ⟨gb847, 0, none⟩ = some (.slice A1_0 l1_0.length c1_0) := (xc BK847.out 0).trans rfl; have hfz17_0 := xf BK847.out 0) | ((with_reducible refine gate_callee (f := 18) rfl ?_); refine goesL_ (some 19) rfl rfl Try.func18 (by kernel_rfl) rfl #[.agg #[.slice A1_0 l1_0.length c1_0], .int .i64 t848] rfl (by (try simp only [List.map_toArray, List.map_cons, List.map_nil]); first | done | rfl | (simp only [List.length_drop, List.length_take]; rfl)) ?_; (with_reducible refine (laws_szRow.calls _ _ l1_0 t848 t849 _ ?side1 ?side2 A10.out).mono ?_); (case side1 => repeat (first | exact (Kd.C_below HR1_0.out HB.out) | (with_reducible refine Kd.C_alloc ?_ _) | (with_reducible refine Kd.C_drewN ?_ _) | (with_reducible refine Kd.C_drew ?_))); (case side2 => exact HC1_0.out); rintro e w18 ⟨rfl, hb⟩; refine ⟨_, rfl, ?_⟩; have n0_ := xm (blk_below (g := gb846) (o := .cells #[.int .i64 a0_0, .slice A0_1 l0_1.length c0_1] 56 (0, 0)) (by (with_reducible repeat (first | refine xq ?_ _ | refine xr ?_ | refine xo ?_ _)); exact BK846.out) hb); have n1_ := xm (blk_below (g := gb847) (o := .cells #[.slice A1_0 l1_0.length c1_0] 24 (0, 0)) (by (with_reducible repeat (first | refine xq ?_ _ | refine xr ?_ | refine xo ?_ _)); exact BK847.out) hb); have n2_ := xm (below_step (by repeat (first | (with_reducible first | exact HB.out | apply xa | apply xn | apply xd | refine xt ?_ GE846.out | refine xt ?_ GE847.out) | exact HB.out)) hb); clear BK846; clear BK847; clear HB; have BK846 := n0_; have BK847 := n1_; have HB := n2_; clear n0_ n1_ n2_; (try clear hb); (try clear hb2); (try clear hk); (try clear hi)))
   go_ret
   exact ⟨by first | rfl | (simp [errW_none, errW_some] <;> rfl) | (simp [*, errW_none, errW_some] <;> rfl), by repeat (first | (with_reducible first | exact HB.out | apply xa | apply xn | apply xd | refine xt ?_ GE846.out | refine xt ?_ GE847.out) | exact HB.out)⟩
  ·rw [if_neg c11] at H
   have c11b0 : decide (t849 < 0) = false := decide_eq_false c11
   clear c11
   replace H := Option.bind_eq_some_iff.mp H
   obtain ⟨⟨t850, t851⟩, A190, H⟩ := H
   (try dsimp only at H)
   have A19 := xm A190
   clear A190
   replace H := Option.bind_eq_some_iff.mp H
   obtain ⟨t854, A200, H⟩ := H
   (try dsimp only at H)
   have A20 := xm A200
   clear A200
   replace H := Option.bind_eq_some_iff.mp H
   obtain ⟨⟨t857, t858⟩, A210, H⟩ := H
   (try dsimp only at H)
   have A21 := xm A210
   clear A210
   replace H := Option.bind_eq_some_iff.mp H
   obtain ⟨⟨t859, t860⟩, A220, H⟩ := H
   (try dsimp only at H)
   have A22 := xm A220
   clear A220
   replace H := Option.bind_eq_some_iff.mp H
   obtain ⟨t864, A230, H⟩ := H
   (try dsimp only at H)
   have A23 := xm A230
   clear A230
   replace H := Option.bind_eq_some_iff.mp H
   obtain ⟨⟨t868, t869⟩, A240, H⟩ := H
   (try dsimp only at H)
   have A24 := xm A240
   clear A240
   by_cases c25 : t868 = t857
   ·rw [if_pos c25] at H
    have c25b0 : (t868 == t857) = true := beq_iff_eq.mpr c25
    have c25b1 : (t868 != t857) = false := bne_eq_false_iff_eq.mpr c25
    clear c25
    by_cases c26 : (t869 != t858) = true
    ·rw [if_pos c26] at H
     have c26b0 : (t869 != t858) = true := c26
     (try (have c26b1 : decide (t869 = t858) = false := by simpa using c26))
     (try (have c26b2 : (t869 == t858) = false := by simpa using c26))
     (try (have c26b3 : ¬ (t869 = t858) := by simpa using c26))
     clear c26
     exact absurd H (by simp)
    ·rw [if_neg c26] at H
     have c26b0 : (t869 != t858) = false := by simpa using c26
     (try (have c26b1 : decide (t869 = t858) = true := by simpa using c26))
     (try (have c26b2 : (t869 == t858) = true := by simpa using c26))
     clear c26
     replace H := Option.bind_eq_some_iff.mp H
     obtain ⟨⟨t870, t871⟩, A270, H⟩ := H
     (try dsimp only at H)
     have A27 := xm A270
     clear A270
     replace H := Option.bind_eq_some_iff.mp H
     obtain ⟨t874, A280, H⟩ := H
     (try dsimp only at H)
     have A28 := xm A280
     clear A280
     by_cases c29 : t874 = true
     ·subst c29
      have H1 : ((laws_toRow.f k l1_0).bind fun t875 => ((laws_eqRow.f k t864 t875).bind fun t878 => (if t878 = true then (some true) else (some false)))) = some true := by first | (with_reducible rfl) | (rw [if_pos rfl] at H; exact H)
      clear H
      have H := H1
      clear H1
      replace H := Option.bind_eq_some_iff.mp H
      obtain ⟨t875, A300, H⟩ := H
      (try dsimp only at H)
      have A30 := xm A300
      clear A300
      replace H := Option.bind_eq_some_iff.mp H
      obtain ⟨t878, A310, H⟩ := H
      (try dsimp only at H)
      have A31 := xm A310
      clear A310
      by_cases c32 : t878 = true
      ·subst c32
       have H1 : (some true) = some true := by first | (with_reducible rfl) | (rw [if_pos rfl] at H; exact H)
       clear H
       have H := H1
       clear H1
       clear H
       go_enter Try.func14, Try.ntmps14
       try go_wp2_with (first | ((with_reducible refine gate_dst (N := 2) rfl ?_); refine box_event ?hg (N := 2) ?hd (cs := #[.int .i64 a0_0, .slice A0_1 l0_1.length c0_1]) (t := 56) ?hr ?_; (case hd => rfl); (case hg => rfl); (case hr => first | (go_simp; done) | (go_simp; rfl)); intro gb846 hg w33 hbox hb; have n0_ := xm (below_step (by repeat (first | (with_reducible first | exact HB.out | apply xa | apply xn | apply xd) | exact HB.out)) hb); have n1_ := xm (hbox); have n2_ := xm ((by rw [hg]; exact (xz (by repeat (first | (with_reducible first | exact HB.out | apply xa | apply xn | apply xd) | exact HB.out))) : w.heap.size ≤ gb846)); have n3_ := xm ((by rw [hg]; exact (xz (by repeat (first | (with_reducible first | exact HB.out | apply xa | apply xn | apply xd) | exact HB.out))) : w.heap.size ≤ gb846)); clear HB; have HB := n0_; have BK846 := n1_; have GW846 := n2_; have GE846 := n3_; clear n0_ n1_ n2_ n3_; clear hb hbox hg) | ((with_reducible refine gate_dst (N := 3) rfl ?_); refine box_event ?hg (N := 3) ?hd (cs := #[.slice A1_0 l1_0.length c1_0]) (t := 24) ?hr ?_; (case hd => rfl); (case hg => rfl); (case hr => first | (go_simp; done) | (go_simp; rfl)); intro gb847 hg w34 hbox hb; have n0_ := xm (blk_below (g := gb846) (o := .cells #[.int .i64 a0_0, .slice A0_1 l0_1.length c0_1] 56 (0, 0)) (by (with_reducible repeat (first | refine xq ?_ _ | refine xr ?_ | refine xo ?_ _)); exact BK846.out) hb); have n1_ := xm (below_step (by repeat (first | (with_reducible first | exact HB.out | apply xa | apply xn | apply xd | refine xt ?_ GE846.out) | exact HB.out)) hb); have n2_ := xm (hbox); have n3_ := xm ((by rw [hg]; exact (xz (by repeat (first | (with_reducible first | exact HB.out | apply xa | apply xn | apply xd | refine xt ?_ GE846.out) | exact HB.out))) : w.heap.size ≤ gb847)); have n4_ := xm ((by rw [hg]; exact (xz (by repeat (first | (with_reducible first | exact HB.out | apply xa | apply xn | apply xd | refine xt ?_ GE846.out) | exact HB.out))) : w.heap.size ≤ gb847)); have n5_ := xm ((by rw [hg]; exact Nat.ne_of_lt (blk_lt (g := gb846) (o := .cells #[.int .i64 a0_0, .slice A0_1 l0_1.length c0_1] 56 (0, 0)) (by (with_reducible repeat (first | refine xq ?_ _ | refine xr ?_ | refine xo ?_ _)); exact BK846.out)) : gb846 ≠ gb847)); have n6_ := xm ((by rw [hg]; exact Nat.ne_of_gt (blk_lt (g := gb846) (o := .cells #[.int .i64 a0_0, .slice A0_1 l0_1.length c0_1] 56 (0, 0)) (by (with_reducible repeat (first | refine xq ?_ _ | refine xr ?_ | refine xo ?_ _)); exact BK846.out)) : gb847 ≠ gb846)); clear BK846; clear HB; have BK846 := n0_; have HB := n1_; have BK847 := n2_; have GW847 := n3_; have GE847 := n4_; have NB846_847 := n5_; have NB847_846 := n6_; clear n0_ n1_ n2_ n3_ n4_ n5_ n6_; clear hb hbox hg; have hnb35 := NB846_847.out; have hnc35 := NB847_846.out; have hcz36_0 : w34.cell? ⟨gb846, 0, none⟩ = some (.int .i64 a0_0) := (xc BK846.out 0).trans rfl; have hcz36_1 : w34.cell? ⟨gb846, 1, none⟩ = some (.slice A0_1 l0_1.length c0_1) := (xc BK846.out 1).trans rfl; have hfz36_0 := xf BK846.out 0; have hfz36_1 := xf BK846.out 1) | ((with_reducible refine gate_callee (f := 40) rfl ?_); refine goesL_ (some 14) rfl rfl Try.func40 (by kernel_rfl) rfl #[.agg #[.int .i64 a0_0, .slice A0_1 l0_1.length c0_1], .int .i64 1048576] rfl (by (try simp only [List.map_toArray, List.map_cons, List.map_nil]); first | done | rfl | (simp only [List.length_drop, List.length_take]; rfl)) ?_; (with_reducible refine (laws_szTable.calls k a0_0 _ _ l0_1 1048576 t848 _ ?side1 ?side2 A3.out).mono ?_); (case side1 => repeat (first | exact (Kd.C_below HR0_1.out HB.out) | (with_reducible refine Kd.C_alloc ?_ _) | (with_reducible refine Kd.C_drewN ?_ _) | (with_reducible refine Kd.C_drew ?_))); (case side2 => exact HC0_1.out); rintro e w37 ⟨rfl, hb⟩; refine ⟨_, rfl, ?_⟩; have n0_ := xm (blk_below (g := gb846) (o := .cells #[.int .i64 a0_0, .slice A0_1 l0_1.length c0_1] 56 (0, 0)) (by (with_reducible repeat (first | refine xq ?_ _ | refine xr ?_ | refine xo ?_ _)); exact BK846.out) hb); have n1_ := xm (blk_below (g := gb847) (o := .cells #[.slice A1_0 l1_0.length c1_0] 24 (0, 0)) (by (with_reducible repeat (first | refine xq ?_ _ | refine xr ?_ | refine xo ?_ _)); exact BK847.out) hb); have n2_ := xm (below_step (by repeat (first | (with_reducible first | exact HB.out | apply xa | apply xn | apply xd | refine xt ?_ GE846.out | refine xt ?_ GE847.out) | exact HB.out)) hb); clear BK846; clear BK847; clear HB; have BK846 := n0_; have BK847 := n1_; have HB := n2_; clear n0_ n1_ n2_; (try clear hb); (try clear hb2); (try clear hk); (try clear hi); have hcz38_0 : w37.cell? ⟨gb847, 0, none⟩ = some (.slice A1_0 l1_0.length c1_0) := (xc BK847.out 0).trans rfl; have hfz38_0 := xf BK847.out 0) | ((with_reducible refine gate_callee (f := 18) rfl ?_); refine goesL_ (some 19) rfl rfl Try.func18 (by kernel_rfl) rfl #[.agg #[.slice A1_0 l1_0.length c1_0], .int .i64 t848] rfl (by (try simp only [List.map_toArray, List.map_cons, List.map_nil]); first | done | rfl | (simp only [List.length_drop, List.length_take]; rfl)) ?_; (with_reducible refine (laws_szRow.calls _ _ l1_0 t848 t849 _ ?side1 ?side2 A10.out).mono ?_); (case side1 => repeat (first | exact (Kd.C_below HR1_0.out HB.out) | (with_reducible refine Kd.C_alloc ?_ _) | (with_reducible refine Kd.C_drewN ?_ _) | (with_reducible refine Kd.C_drew ?_))); (case side2 => exact HC1_0.out); rintro e w39 ⟨rfl, hb⟩; refine ⟨_, rfl, ?_⟩; have n0_ := xm (blk_below (g := gb846) (o := .cells #[.int .i64 a0_0, .slice A0_1 l0_1.length c0_1] 56 (0, 0)) (by (with_reducible repeat (first | refine xq ?_ _ | refine xr ?_ | refine xo ?_ _)); exact BK846.out) hb); have n1_ := xm (blk_below (g := gb847) (o := .cells #[.slice A1_0 l1_0.length c1_0] 24 (0, 0)) (by (with_reducible repeat (first | refine xq ?_ _ | refine xr ?_ | refine xo ?_ _)); exact BK847.out) hb); have n2_ := xm (below_step (by repeat (first | (with_reducible first | exact HB.out | apply xa | apply xn | apply xd | refine xt ?_ GE846.out | refine xt ?_ GE847.out) | exact HB.out)) hb); clear BK846; clear BK847; clear HB; have BK846 := n0_; have BK847 := n1_; have HB := n2_; clear n0_ n1_ n2_; (try clear hb); (try clear hb2); (try clear hk); (try clear hi)))
       have n0_ := xm (xr BK846.out)
       have n1_ := xm (xr BK847.out)
       have n2_ := xm (xd HB.out)
       clear BK846
       clear BK847
       clear HB
       have BK846 := n0_
       have BK847 := n1_
       have HB := n2_
       clear n0_ n1_ n2_
       refine start_ (n := 10) (S := fun w' => w'.cell? ⟨gb846, 0, none⟩ = some (.int .i64 a0_0) ∧ w'.cell? ⟨gb846, 1, none⟩ = some (.slice A0_1 l0_1.length c0_1) ∧ w'.cell? ⟨gb847, 0, none⟩ = some (.slice A1_0 l1_0.length c1_0)) (ds := []) #[Z,Z,Z,Z,Z,Z,Z,Z,Z,Z] (by kernel_rfl) rfl rfl ⟨(xc BK846.out 0).trans rfl, (xc BK846.out 1).trans rfl, (xc BK847.out 0).trans rfl⟩ (fun hHeld => ?_); refine with_tabW laws_FnExactWeightOf.tab8 laws_FnExactWeightOf.bits8 (fun HT_ HW_ => ?_)
       generalize w39.drew = w40 at BK846 BK847 HB hHeld ⊢
       refine take_ (i := 0) (N := some 23) (v := ?_) (a' := ?_) #[Y,Z,Z,Z,Z,Z,Z,Z,Z,Z] rfl rfl (take_ofW HT_.out HW_.out (by kernel_rfl)) (fun _ _ _ h => h) (Or.inl ⟨by rfl, ?_⟩) hHeld ?_ ?_
       rotate_left
       ·rintro w' ⟨s0, s1, s2⟩
        go_simp
        with_reducible rfl
       rotate_left
       ·simp only [Act.put, xi, xj, xk, i64_w, i32_w]
        rfl
       refine take_ (i := 2) (N := some 25) (v := ?_) (a' := ?_) #[Y,Z,Y,Z,Z,Z,Z,Z,Z,Z] rfl rfl (take_ofW HT_.out HW_.out (by kernel_rfl)) (fun _ _ _ h => h) (Or.inl ⟨by rfl, ?_⟩) hHeld ?_ ?_
       rotate_left
       ·rintro w' ⟨s0, s1, s2⟩
        go_simp
        with_reducible rfl
       rotate_left
       ·simp only [Act.put, xi, xj, xk, i64_w, i32_w]
        rfl
       refine one_ (i := 1) (N := some 24) #[Y,Y,Y,Z,Z,Z,Z,Z,Z,Z] rfl rfl (one_of HT_.out (by kernel_rfl)) (by decide) (fun K hK => ?_)
       refine goes_ Try.func42 (by kernel_rfl) rfl #[.agg #[.int .i64 a0_0, .slice A0_1 l0_1.length c0_1]] (by rfl) rfl rfl (by (try simp only [List.map_toArray, List.map_cons, List.map_nil]); first | done | rfl | (simp only [List.length_drop, List.length_take]; rfl)) ?_
       with_reducible refine (laws_toTable.calls k a0_0 _ _ l0_1 t850 t851 _ ?side1 ?side2 A19.out).mono ?_
       (case side1 => repeat (first | exact (Kd.C_below HR0_1.out HB.out) | (with_reducible refine Kd.C_alloc ?_ _) | (with_reducible refine Kd.C_drewN ?_ _) | (with_reducible refine Kd.C_drew ?_)))
       (case side2 => exact HC0_1.out)
       rintro e w41 ⟨v852, rfl, ho0, hb⟩
       refine ⟨_, rfl, ?_⟩
       have n0_ := xm (Kd.S_lower ho0 (xz (by repeat (first | (with_reducible first | exact HB.out | apply xa | apply xn | apply xd | refine xt ?_ GE846.out | refine xt ?_ GE847.out) | exact HB.out))))
       have n1_ := xm (blk_below (g := gb846) (o := .cells #[.int .i64 a0_0, .slice A0_1 l0_1.length c0_1] 56 (0, 0)) (by (with_reducible repeat (first | refine xq ?_ _ | refine xr ?_ | refine xo ?_ _)); exact BK846.out) hb)
       have n2_ := xm (blk_below (g := gb847) (o := .cells #[.slice A1_0 l1_0.length c1_0] 24 (0, 0)) (by (with_reducible repeat (first | refine xq ?_ _ | refine xr ?_ | refine xo ?_ _)); exact BK847.out) hb)
       have n3_ := xm (below_step (by repeat (first | (with_reducible first | exact HB.out | apply xa | apply xn | apply xd | refine xt ?_ GE846.out | refine xt ?_ GE847.out) | exact HB.out)) hb)
       clear BK846
       clear BK847
       clear HB
       have HO853 := n0_
       have BK846 := n1_
       have BK847 := n2_
       have HB := n3_
       clear n0_ n1_ n2_ n3_
       (try clear hb)
       (try clear hb2)
       (try clear hk)
       (try clear hi)
       (try clear ho0)
       refine hK.out _ _ ⟨(xc BK846.out 0).trans rfl, (xc BK846.out 1).trans rfl, (xc BK847.out 0).trans rfl⟩ (fun hHeld => ?_)
       clear hK K
       refine norm_ (a' := ?_) ?_ ?_
       rotate_left
       ·show Act.put _ (some 24) _ = _
        simp only [Act.put, xi, xj, xk, i64_w, i32_w]
        rfl
       refine one_ (i := 3) (N := some 26) #[Y,Y,Y,Y,Z,Z,Z,Z,Z,Z] rfl rfl (one_of HT_.out (by kernel_rfl)) (by decide) (fun K hK => ?_)
       refine goes_ Try.func20 (by kernel_rfl) rfl #[.agg #[.slice A1_0 l1_0.length c1_0]] (by rfl) rfl rfl (by (try simp only [List.map_toArray, List.map_cons, List.map_nil]); first | done | rfl | (simp only [List.length_drop, List.length_take]; rfl)) ?_
       with_reducible refine (laws_toRow.calls k _ _ l1_0 t854 _ ?side1 ?side2 A20.out).mono ?_
       (case side1 => repeat (first | exact (Kd.C_below HR1_0.out HB.out) | (with_reducible refine Kd.C_alloc ?_ _) | (with_reducible refine Kd.C_drewN ?_ _) | (with_reducible refine Kd.C_drew ?_)))
       (case side2 => exact HC1_0.out)
       rintro e w42 ⟨v855, rfl, ho0, hb⟩
       refine ⟨_, rfl, ?_⟩
       have n0_ := xm (Kd.S_elder' (by (with_reducible repeat (first | apply Kd.S_alloc | apply Kd.S_drewN | apply Kd.S_drew)); exact HO853.out) (Kd.R_base ho0) hb)
       have n1_ := xm (Kd.R_lower ho0 (xz (by repeat (first | (with_reducible first | exact HB.out | apply xa | apply xn | apply xd | refine xt ?_ GE846.out | refine xt ?_ GE847.out) | exact HB.out))))
       have n2_ := xm (blk_below (g := gb846) (o := .cells #[.int .i64 a0_0, .slice A0_1 l0_1.length c0_1] 56 (0, 0)) (by (with_reducible repeat (first | refine xq ?_ _ | refine xr ?_ | refine xo ?_ _)); exact BK846.out) hb)
       have n3_ := xm (blk_below (g := gb847) (o := .cells #[.slice A1_0 l1_0.length c1_0] 24 (0, 0)) (by (with_reducible repeat (first | refine xq ?_ _ | refine xr ?_ | refine xo ?_ _)); exact BK847.out) hb)
       have n4_ := xm (below_step (by repeat (first | (with_reducible first | exact HB.out | apply xa | apply xn | apply xd | refine xt ?_ GE846.out | refine xt ?_ GE847.out) | exact HB.out)) hb)
       clear HO853
       clear BK846
       clear BK847
       clear HB
       have HO853 := n0_
       have HO856 := n1_
       have BK846 := n2_
       have BK847 := n3_
       have HB := n4_
       clear n0_ n1_ n2_ n3_ n4_
       (try clear hb)
       (try clear hb2)
       (try clear hk)
       (try clear hi)
       (try clear ho0)
       obtain ⟨Ao43, co43, eo43⟩ := Kd.S_slice HO853.out
       (first | subst eo43 | (injection eo43 with f1_ f2_ f3_; have f4_ := f1_.symm; have f5_ := f3_.symm; clear f1_ f2_ f3_; subst f4_; subst f5_))
       obtain ⟨Ao44, co44, eo44⟩ := Kd.R_slice HO856.out
       (first | subst eo44 | (injection eo44 with f1_ f2_ f3_; have f4_ := f1_.symm; have f5_ := f3_.symm; clear f1_ f2_ f3_; subst f4_; subst f5_))
       refine hK.out _ _ ⟨(xc BK846.out 0).trans rfl, (xc BK846.out 1).trans rfl, (xc BK847.out 0).trans rfl⟩ (fun hHeld => ?_)
       clear hK K
       refine norm_ (a' := ?_) ?_ ?_
       rotate_left
       ·show Act.put _ (some 26) _ = _
        simp only [Act.put, xi, xj, xk, i64_w, i32_w]
        rfl
       refine one_ (i := 4) (N := some 27) #[Y,Y,Y,Y,Y,Z,Z,Z,Z,Z] rfl rfl (one_of HT_.out (by kernel_rfl)) (by decide) (fun K hK => ?_)
       refine goes_ Try.func66 (by kernel_rfl) rfl #[.agg #[.int .i64 t850, .slice Ao43 t851.length co43], .agg #[.slice Ao44 t854.length co44]] (by rfl) rfl rfl (by (try simp only [List.map_toArray, List.map_cons, List.map_nil]); first | done | rfl | (simp only [List.length_drop, List.length_take]; rfl)) ?_
       with_reducible refine (spec_WeightOf.calls k t850 _ _ t851 _ _ t854 t857 t858 _ ?side1 ?side2 ?side3 ?side4 A21.out).mono ?_
       (case side1 => repeat (first | exact (Kd.S_reads' HO853.out).2.2 | (with_reducible refine Kd.C_alloc ?_ _) | (with_reducible refine Kd.C_drewN ?_ _) | (with_reducible refine Kd.C_drew ?_)))
       (case side2 => exact (Kd.S_reads' HO853.out).2.1)
       (case side3 => repeat (first | exact (Kd.R_reads' HO856.out).2.2 | (with_reducible refine Kd.C_alloc ?_ _) | (with_reducible refine Kd.C_drewN ?_ _) | (with_reducible refine Kd.C_drew ?_)))
       (case side4 => exact (Kd.R_reads' HO856.out).2.1)
       rintro e w45 ⟨rfl, hb⟩
       refine ⟨_, rfl, ?_⟩
       have n0_ := xm (Kd.S_below (by (with_reducible repeat (first | apply Kd.S_alloc | apply Kd.S_drewN | apply Kd.S_drew)); exact HO853.out) hb)
       have n1_ := xm (Kd.R_below (by (with_reducible repeat (first | apply Kd.R_alloc | apply Kd.R_drewN | apply Kd.R_drew)); exact HO856.out) hb)
       have n2_ := xm (blk_below (g := gb846) (o := .cells #[.int .i64 a0_0, .slice A0_1 l0_1.length c0_1] 56 (0, 0)) (by (with_reducible repeat (first | refine xq ?_ _ | refine xr ?_ | refine xo ?_ _)); exact BK846.out) hb)
       have n3_ := xm (blk_below (g := gb847) (o := .cells #[.slice A1_0 l1_0.length c1_0] 24 (0, 0)) (by (with_reducible repeat (first | refine xq ?_ _ | refine xr ?_ | refine xo ?_ _)); exact BK847.out) hb)
       have n4_ := xm (below_step (by repeat (first | (with_reducible first | exact HB.out | apply xa | apply xn | apply xd | refine xt ?_ GE846.out | refine xt ?_ GE847.out) | exact HB.out)) hb)
       clear HO853
       clear HO856
       clear BK846
       clear BK847
       clear HB
       have HO853 := n0_
       have HO856 := n1_
       have BK846 := n2_
       have BK847 := n3_
       have HB := n4_
       clear n0_ n1_ n2_ n3_ n4_
       (try clear hb)
       (try clear hb2)
       (try clear hk)
       (try clear hi)
       refine hK.out _ _ ⟨(xc BK846.out 0).trans rfl, (xc BK846.out 1).trans rfl, (xc BK847.out 0).trans rfl⟩ (fun hHeld => ?_)
       clear hK K
       refine norm_ (a' := ?_) ?_ ?_
       rotate_left
       ·show Act.put _ (some 27) _ = _
        simp only [Act.put, xi, xj, xk, i64_w, i32_w]
        rfl
       refine pure_ (i := 5) (N := some 22) (v := ?_) (a' := ?_) #[Y,Y,Y,Y,Y,Y,Z,Z,Z,Z] rfl rfl (any_of HT_.out (by kernel_rfl)) (fun _ _ _ h => h) (Or.inl ⟨by rfl, ?_⟩) ?_ ?_
       rotate_left
       ·intro w'
        go_simp
        with_reducible rfl
       rotate_left
       ·simp only [Act.put, xi, xj, xk, i64_w, i32_w]
        rfl
       refine pure_ (i := 6) (N := some 28) (v := ?_) (a' := ?_) #[Y,Y,Y,Y,Y,Y,Y,Z,Z,Z] rfl rfl (any_of HT_.out (by kernel_rfl)) (fun _ _ _ h => h) (Or.inl ⟨by rfl, ?_⟩) ?_ ?_
       rotate_left
       ·intro w'
        go_simp
        with_reducible rfl
       rotate_left
       ·simp only [Act.put, xi, xj, xk, i64_w, i32_w]
        rfl
       refine pure_ (i := 7) (N := some 29) (v := ?_) (a' := ?_) #[Y,Y,Y,Y,Y,Y,Y,Y,Z,Z] rfl rfl (any_of HT_.out (by kernel_rfl)) (fun _ _ _ h => h) (Or.inl ⟨by rfl, ?_⟩) ?_ ?_
       rotate_left
       ·intro w'
        go_simp
        with_reducible rfl
       rotate_left
       ·simp only [Act.put, xi, xj, xk, i64_w, i32_w]
        rfl
       refine pure_ (i := 8) (N := some 6) (v := ?_) (a' := ?_) #[Y,Y,Y,Y,Y,Y,Y,Y,Y,Z] rfl rfl (any_of HT_.out (by kernel_rfl)) (fun _ _ _ h => h) (Or.inl ⟨by rfl, ?_⟩) ?_ ?_
       rotate_left
       ·intro w'
        go_simp
        with_reducible rfl
       rotate_left
       ·simp only [Act.put, xi, xj, xk, i64_w, i32_w]
        rfl
       refine pure_ (i := 9) (N := some 7) (v := ?_) (a' := ?_) #[Y,Y,Y,Y,Y,Y,Y,Y,Y,Y] rfl rfl (any_of HT_.out (by kernel_rfl)) (fun _ _ _ h => h) (Or.inl ⟨by rfl, ?_⟩) ?_ ?_
       rotate_left
       ·intro w'
        go_simp
        with_reducible rfl
       rotate_left
       ·simp only [Act.put, xi, xj, xk, i64_w, i32_w]
        rfl
       refine done_ (done_of HT_.out (by kernel_rfl)) ?_
       have hcz46_0 : w45.cell? ⟨gb846, 0, none⟩ = some (.int .i64 a0_0) := (xc BK846.out 0).trans rfl
       have hcz46_1 : w45.cell? ⟨gb846, 1, none⟩ = some (.slice A0_1 l0_1.length c0_1) := (xc BK846.out 1).trans rfl
       have hfz46_0 := xf BK846.out 0
       have hfz46_1 := xf BK846.out 1
       try go_wp2_with (first | ((with_reducible refine gate_callee (f := 42) rfl ?_); refine goesL_ (some 31) rfl rfl Try.func42 (by kernel_rfl) rfl #[.agg #[.int .i64 a0_0, .slice A0_1 l0_1.length c0_1]] rfl (by (try simp only [List.map_toArray, List.map_cons, List.map_nil]); first | done | rfl | (simp only [List.length_drop, List.length_take]; rfl)) ?_; (with_reducible refine (laws_toTable.calls k a0_0 _ _ l0_1 t859 t860 _ ?side1 ?side2 A22.out).mono ?_); (case side1 => repeat (first | exact (Kd.C_below HR0_1.out HB.out) | (with_reducible refine Kd.C_alloc ?_ _) | (with_reducible refine Kd.C_drewN ?_ _) | (with_reducible refine Kd.C_drew ?_))); (case side2 => exact HC0_1.out); rintro e w47 ⟨v861, rfl, ho0, hb⟩; refine ⟨_, rfl, ?_⟩; have n0_ := xm (Kd.S_elder' (by (with_reducible repeat (first | apply Kd.S_alloc | apply Kd.S_drewN | apply Kd.S_drew)); exact HO853.out) (Kd.S_base ho0) hb); have n1_ := xm (Kd.R_below (by (with_reducible repeat (first | apply Kd.R_alloc | apply Kd.R_drewN | apply Kd.R_drew)); exact HO856.out) hb); have n2_ := xm (Kd.S_lower (Kd.S_new' (Kd.S_new' ho0 (Kd.S_lt (by (with_reducible repeat (first | apply Kd.S_alloc | apply Kd.S_drewN | apply Kd.S_drew)); exact HO853.out))) (Kd.R_lt (by (with_reducible repeat (first | apply Kd.R_alloc | apply Kd.R_drewN | apply Kd.R_drew)); exact HO856.out))) (xz (by repeat (first | (with_reducible first | exact HB.out | apply xa | apply xn | apply xd | refine xt ?_ GE846.out | refine xt ?_ GE847.out) | exact HB.out)))); have n3_ := xm (blk_below (g := gb846) (o := .cells #[.int .i64 a0_0, .slice A0_1 l0_1.length c0_1] 56 (0, 0)) (by (with_reducible repeat (first | refine xq ?_ _ | refine xr ?_ | refine xo ?_ _)); exact BK846.out) hb); have n4_ := xm (blk_below (g := gb847) (o := .cells #[.slice A1_0 l1_0.length c1_0] 24 (0, 0)) (by (with_reducible repeat (first | refine xq ?_ _ | refine xr ?_ | refine xo ?_ _)); exact BK847.out) hb); have n5_ := xm (below_step (by repeat (first | (with_reducible first | exact HB.out | apply xa | apply xn | apply xd | refine xt ?_ GE846.out | refine xt ?_ GE847.out) | exact HB.out)) hb); clear HO853; clear HO856; clear BK846; clear BK847; clear HB; have HO853 := n0_; have HO856 := n1_; have HO862 := n2_; have BK846 := n3_; have BK847 := n4_; have HB := n5_; clear n0_ n1_ n2_ n3_ n4_ n5_; (try clear hb); (try clear hb2); (try clear hk); (try clear hi); (try clear ho0)) | ((with_reducible refine gate_dst (N := 8) rfl ?_); refine box_event ?hg (N := 8) ?hd (cs := #[.int .i64 0, .slice none 0 0]) (t := 41) ?hr ?_; (case hd => rfl); (case hg => rfl); (case hr => first | (go_simp; done) | (go_simp; rfl)); intro gb863 hg w48 hbox hb; have n0_ := xm (Kd.S_below (by (with_reducible repeat (first | apply Kd.S_alloc | apply Kd.S_drewN | apply Kd.S_drew)); exact HO853.out) hb); have n1_ := xm (Kd.R_below (by (with_reducible repeat (first | apply Kd.R_alloc | apply Kd.R_drewN | apply Kd.R_drew)); exact HO856.out) hb); have n2_ := xm (Kd.S_below (by (with_reducible repeat (first | apply Kd.S_alloc | apply Kd.S_drewN | apply Kd.S_drew)); exact HO862.out) hb); have n3_ := xm (blk_below (g := gb846) (o := .cells #[.int .i64 a0_0, .slice A0_1 l0_1.length c0_1] 56 (0, 0)) (by (with_reducible repeat (first | refine xq ?_ _ | refine xr ?_ | refine xo ?_ _)); exact BK846.out) hb); have n4_ := xm (blk_below (g := gb847) (o := .cells #[.slice A1_0 l1_0.length c1_0] 24 (0, 0)) (by (with_reducible repeat (first | refine xq ?_ _ | refine xr ?_ | refine xo ?_ _)); exact BK847.out) hb); have n5_ := xm (below_step (by repeat (first | (with_reducible first | exact HB.out | apply xa | apply xn | apply xd | refine xt ?_ GE846.out | refine xt ?_ GE847.out) | exact HB.out)) hb); have n6_ := xm (hbox); have n7_ := xm ((by rw [hg]; exact (xz (by repeat (first | (with_reducible first | exact HB.out | apply xa | apply xn | apply xd | refine xt ?_ GE846.out | refine xt ?_ GE847.out) | exact HB.out))) : w.heap.size ≤ gb863)); have n8_ := xm ((by rw [hg]; exact (xz (by repeat (first | (with_reducible first | exact HB.out | apply xa | apply xn | apply xd | refine xt ?_ GE846.out | refine xt ?_ GE847.out) | exact HB.out))) : w.heap.size ≤ gb863)); have n9_ := xm ((by rw [hg]; exact Nat.ne_of_lt (blk_lt (g := gb846) (o := .cells #[.int .i64 a0_0, .slice A0_1 l0_1.length c0_1] 56 (0, 0)) (by (with_reducible repeat (first | refine xq ?_ _ | refine xr ?_ | refine xo ?_ _)); exact BK846.out)) : gb846 ≠ gb863)); have n10_ := xm ((by rw [hg]; exact Nat.ne_of_gt (blk_lt (g := gb846) (o := .cells #[.int .i64 a0_0, .slice A0_1 l0_1.length c0_1] 56 (0, 0)) (by (with_reducible repeat (first | refine xq ?_ _ | refine xr ?_ | refine xo ?_ _)); exact BK846.out)) : gb863 ≠ gb846)); have n11_ := xm ((by rw [hg]; exact Nat.ne_of_lt (blk_lt (g := gb847) (o := .cells #[.slice A1_0 l1_0.length c1_0] 24 (0, 0)) (by (with_reducible repeat (first | refine xq ?_ _ | refine xr ?_ | refine xo ?_ _)); exact BK847.out)) : gb847 ≠ gb863)); have n12_ := xm ((by rw [hg]; exact Nat.ne_of_gt (blk_lt (g := gb847) (o := .cells #[.slice A1_0 l1_0.length c1_0] 24 (0, 0)) (by (with_reducible repeat (first | refine xq ?_ _ | refine xr ?_ | refine xo ?_ _)); exact BK847.out)) : gb863 ≠ gb847)); clear HO853; clear HO856; clear HO862; clear BK846; clear BK847; clear HB; have HO853 := n0_; have HO856 := n1_; have HO862 := n2_; have BK846 := n3_; have BK847 := n4_; have HB := n5_; have BK863 := n6_; have GW863 := n7_; have GE863 := n8_; have NB846_863 := n9_; have NB863_846 := n10_; have NB847_863 := n11_; have NB863_847 := n12_; clear n0_ n1_ n2_ n3_ n4_ n5_ n6_ n7_ n8_ n9_ n10_ n11_ n12_; clear hb hbox hg; have hnb49 := NB863_846.out; have hnc49 := NB846_863.out; have hnb50 := NB863_847.out; have hnc50 := NB847_863.out; have hcz51_0 : w48.cell? ⟨gb863, 0, none⟩ = some (.int .i64 0) := (xc BK863.out 0).trans rfl; have hcz51_1 : w48.cell? ⟨gb863, 1, none⟩ = some (.slice none 0 0) := (xc BK863.out 1).trans rfl; have hfz51_0 := xf BK863.out 0; have hfz51_1 := xf BK863.out 1; obtain ⟨Ao52, co52, eo52⟩ := Kd.S_slice HO862.out; subst eo52; have hcz53_0 : w48.cell? ⟨gb847, 0, none⟩ = some (.slice A1_0 l1_0.length c1_0) := (xc BK847.out 0).trans rfl; have hfz53_0 := xf BK847.out 0) | ((with_reducible refine gate_callee (f := 20) rfl ?_); refine goesL_ (some 33) rfl rfl Try.func20 (by kernel_rfl) rfl #[.agg #[.slice A1_0 l1_0.length c1_0]] rfl (by (try simp only [List.map_toArray, List.map_cons, List.map_nil]); first | done | rfl | (simp only [List.length_drop, List.length_take]; rfl)) ?_; (with_reducible refine (laws_toRow.calls k _ _ l1_0 t864 _ ?side1 ?side2 A23.out).mono ?_); (case side1 => exact Kd.C_below HR1_0.out (by repeat (first | (with_reducible first | exact HB.out | apply xa | apply xn | apply xd | refine xt ?_ GE846.out | refine xt ?_ GE847.out | refine xt ?_ GE863.out) | exact HB.out))); (case side2 => exact HC1_0.out); rintro e w54 ⟨v865, rfl, ho0, hb⟩; refine ⟨_, rfl, ?_⟩; have n0_ := xm (Kd.S_elder' (by (with_reducible repeat (first | apply Kd.S_alloc | apply Kd.S_drewN | apply Kd.S_drew)); exact (Kd.S_mono (Kd.S_far (p := ⟨gb863, 1, none⟩) (Kd.S_far (p := ⟨gb863, 0, none⟩) (Kd.S_types HO853.out BK863.out (by decide)) (fun _ hk => hk.2) (.int .i64 t859)) (fun _ hk => hk.2) (.slice Ao52 t860.length co52)) (fun _ h_ => h_.1))) (Kd.R_base ho0) hb); have n1_ := xm (Kd.R_elder' (by (with_reducible repeat (first | apply Kd.R_alloc | apply Kd.R_drewN | apply Kd.R_drew)); exact (Kd.R_mono (Kd.R_far (p := ⟨gb863, 1, none⟩) (Kd.R_far (p := ⟨gb863, 0, none⟩) (Kd.R_types HO856.out BK863.out (by decide)) (fun _ hk => hk.2) (.int .i64 t859)) (fun _ hk => hk.2) (.slice Ao52 t860.length co52)) (fun _ h_ => h_.1))) (Kd.R_base ho0) hb); have n2_ := xm (Kd.S_elder' (by (with_reducible repeat (first | apply Kd.S_alloc | apply Kd.S_drewN | apply Kd.S_drew)); exact (Kd.S_mono (Kd.S_far (p := ⟨gb863, 1, none⟩) (Kd.S_far (p := ⟨gb863, 0, none⟩) (Kd.S_types HO862.out BK863.out (by decide)) (fun _ hk => hk.2) (.int .i64 t859)) (fun _ hk => hk.2) (.slice Ao52 t860.length co52)) (fun _ h_ => h_.1))) (Kd.R_base ho0) hb); have n3_ := xm (Kd.R_lower (Kd.R_new' ho0 (Kd.R_lt (by (with_reducible repeat (first | apply Kd.R_alloc | apply Kd.R_drewN | apply Kd.R_drew)); exact (Kd.R_mono (Kd.R_far (p := ⟨gb863, 1, none⟩) (Kd.R_far (p := ⟨gb863, 0, none⟩) (Kd.R_types HO856.out BK863.out (by decide)) (fun _ hk => hk.2) (.int .i64 t859)) (fun _ hk => hk.2) (.slice Ao52 t860.length co52)) (fun _ h_ => h_.1))))) (xz (by repeat (first | (with_reducible first | exact HB.out | apply xa | apply xn | apply xd | refine xt ?_ GE846.out | refine xt ?_ GE847.out | refine xt ?_ GE863.out) | exact HB.out)))); have n4_ := xm (blk_below (g := gb846) (o := .cells #[.int .i64 a0_0, .slice A0_1 l0_1.length c0_1] 56 (0, 0)) (by (with_reducible repeat (first | refine xq ?_ _ | refine xr ?_ | refine xo ?_ _)); refine blk_far ?_ NB846_863.out _; (with_reducible repeat (first | refine xq ?_ _ | refine xr ?_ | refine xo ?_ _)); refine blk_far ?_ NB846_863.out _; (with_reducible repeat (first | refine xq ?_ _ | refine xr ?_ | refine xo ?_ _)); exact BK846.out) hb); have n5_ := xm (blk_below (g := gb847) (o := .cells #[.slice A1_0 l1_0.length c1_0] 24 (0, 0)) (by (with_reducible repeat (first | refine xq ?_ _ | refine xr ?_ | refine xo ?_ _)); refine blk_far ?_ NB847_863.out _; (with_reducible repeat (first | refine xq ?_ _ | refine xr ?_ | refine xo ?_ _)); refine blk_far ?_ NB847_863.out _; (with_reducible repeat (first | refine xq ?_ _ | refine xr ?_ | refine xo ?_ _)); exact BK847.out) hb); have n6_ := xm (blk_below (g := gb863) (o := .cells #[.int .i64 t859, .slice Ao52 t860.length co52] 41 (0, 0)) (by (with_reducible repeat (first | refine xq ?_ _ | refine xr ?_ | refine xo ?_ _)); refine blk_put (cs := #[.int .i64 t859, .slice none 0 0]) ?_ 1 _ rfl; (with_reducible repeat (first | refine xq ?_ _ | refine xr ?_ | refine xo ?_ _)); refine blk_put (cs := #[.int .i64 0, .slice none 0 0]) ?_ 0 _ rfl; (with_reducible repeat (first | refine xq ?_ _ | refine xr ?_ | refine xo ?_ _)); exact BK863.out) hb); have n7_ := xm (below_step (by repeat (first | (with_reducible first | exact HB.out | apply xa | apply xn | apply xd | refine xt ?_ GE846.out | refine xt ?_ GE847.out | refine xt ?_ GE863.out) | exact HB.out)) hb); clear HO853; clear HO856; clear HO862; clear BK846; clear BK847; clear BK863; clear HB; have HO853 := n0_; have HO856 := n1_; have HO862 := n2_; have HO866 := n3_; have BK846 := n4_; have BK847 := n5_; have BK863 := n6_; have HB := n7_; clear n0_ n1_ n2_ n3_ n4_ n5_ n6_ n7_; (try clear hb); (try clear hb2); (try clear hk); (try clear hi); (try clear ho0)) | ((with_reducible refine gate_dst (N := 9) rfl ?_); refine box_event ?hg (N := 9) ?hd (cs := #[.slice none 0 0]) (t := 26) ?hr ?_; (case hd => rfl); (case hg => rfl); (case hr => first | (go_simp; done) | (go_simp; rfl)); intro gb867 hg w55 hbox hb; have n0_ := xm (Kd.S_below (by (with_reducible repeat (first | apply Kd.S_alloc | apply Kd.S_drewN | apply Kd.S_drew)); exact HO853.out) hb); have n1_ := xm (Kd.R_below (by (with_reducible repeat (first | apply Kd.R_alloc | apply Kd.R_drewN | apply Kd.R_drew)); exact HO856.out) hb); have n2_ := xm (Kd.S_below (by (with_reducible repeat (first | apply Kd.S_alloc | apply Kd.S_drewN | apply Kd.S_drew)); exact HO862.out) hb); have n3_ := xm (Kd.R_below (by (with_reducible repeat (first | apply Kd.R_alloc | apply Kd.R_drewN | apply Kd.R_drew)); exact HO866.out) hb); have n4_ := xm (blk_below (g := gb846) (o := .cells #[.int .i64 a0_0, .slice A0_1 l0_1.length c0_1] 56 (0, 0)) (by (with_reducible repeat (first | refine xq ?_ _ | refine xr ?_ | refine xo ?_ _)); exact BK846.out) hb); have n5_ := xm (blk_below (g := gb847) (o := .cells #[.slice A1_0 l1_0.length c1_0] 24 (0, 0)) (by (with_reducible repeat (first | refine xq ?_ _ | refine xr ?_ | refine xo ?_ _)); exact BK847.out) hb); have n6_ := xm (blk_below (g := gb863) (o := .cells #[.int .i64 t859, .slice Ao52 t860.length co52] 41 (0, 0)) (by (with_reducible repeat (first | refine xq ?_ _ | refine xr ?_ | refine xo ?_ _)); exact BK863.out) hb); have n7_ := xm (below_step (by repeat (first | (with_reducible first | exact HB.out | apply xa | apply xn | apply xd | refine xt ?_ GE846.out | refine xt ?_ GE847.out | refine xt ?_ GE863.out) | exact HB.out)) hb); have n8_ := xm (hbox); have n9_ := xm ((by rw [hg]; exact (xz (by repeat (first | (with_reducible first | exact HB.out | apply xa | apply xn | apply xd | refine xt ?_ GE846.out | refine xt ?_ GE847.out | refine xt ?_ GE863.out) | exact HB.out))) : w.heap.size ≤ gb867)); have n10_ := xm ((by rw [hg]; exact (xz (by repeat (first | (with_reducible first | exact HB.out | apply xa | apply xn | apply xd | refine xt ?_ GE846.out | refine xt ?_ GE847.out | refine xt ?_ GE863.out) | exact HB.out))) : w.heap.size ≤ gb867)); have n11_ := xm ((by rw [hg]; exact Nat.ne_of_lt (blk_lt (g := gb846) (o := .cells #[.int .i64 a0_0, .slice A0_1 l0_1.length c0_1] 56 (0, 0)) (by (with_reducible repeat (first | refine xq ?_ _ | refine xr ?_ | refine xo ?_ _)); exact BK846.out)) : gb846 ≠ gb867)); have n12_ := xm ((by rw [hg]; exact Nat.ne_of_gt (blk_lt (g := gb846) (o := .cells #[.int .i64 a0_0, .slice A0_1 l0_1.length c0_1] 56 (0, 0)) (by (with_reducible repeat (first | refine xq ?_ _ | refine xr ?_ | refine xo ?_ _)); exact BK846.out)) : gb867 ≠ gb846)); have n13_ := xm ((by rw [hg]; exact Nat.ne_of_lt (blk_lt (g := gb847) (o := .cells #[.slice A1_0 l1_0.length c1_0] 24 (0, 0)) (by (with_reducible repeat (first | refine xq ?_ _ | refine xr ?_ | refine xo ?_ _)); exact BK847.out)) : gb847 ≠ gb867)); have n14_ := xm ((by rw [hg]; exact Nat.ne_of_gt (blk_lt (g := gb847) (o := .cells #[.slice A1_0 l1_0.length c1_0] 24 (0, 0)) (by (with_reducible repeat (first | refine xq ?_ _ | refine xr ?_ | refine xo ?_ _)); exact BK847.out)) : gb867 ≠ gb847)); have n15_ := xm ((by rw [hg]; exact Nat.ne_of_lt (blk_lt (g := gb863) (o := .cells #[.int .i64 t859, .slice Ao52 t860.length co52] 41 (0, 0)) (by (with_reducible repeat (first | refine xq ?_ _ | refine xr ?_ | refine xo ?_ _)); exact BK863.out)) : gb863 ≠ gb867)); have n16_ := xm ((by rw [hg]; exact Nat.ne_of_gt (blk_lt (g := gb863) (o := .cells #[.int .i64 t859, .slice Ao52 t860.length co52] 41 (0, 0)) (by (with_reducible repeat (first | refine xq ?_ _ | refine xr ?_ | refine xo ?_ _)); exact BK863.out)) : gb867 ≠ gb863)); clear HO853; clear HO856; clear HO862; clear HO866; clear BK846; clear BK847; clear BK863; clear HB; have HO853 := n0_; have HO856 := n1_; have HO862 := n2_; have HO866 := n3_; have BK846 := n4_; have BK847 := n5_; have BK863 := n6_; have HB := n7_; have BK867 := n8_; have GW867 := n9_; have GE867 := n10_; have NB846_867 := n11_; have NB867_846 := n12_; have NB847_867 := n13_; have NB867_847 := n14_; have NB863_867 := n15_; have NB867_863 := n16_; clear n0_ n1_ n2_ n3_ n4_ n5_ n6_ n7_ n8_ n9_ n10_ n11_ n12_ n13_ n14_ n15_ n16_; clear hb hbox hg; obtain ⟨Ao56, co56, eo56⟩ := Kd.R_slice HO866.out; subst eo56; have hnb57 := NB867_846.out; have hnc57 := NB846_867.out; have hnb58 := NB867_847.out; have hnc58 := NB847_867.out; have hnb59 := NB867_863.out; have hnc59 := NB863_867.out; have hcz60_0 : w55.cell? ⟨gb867, 0, none⟩ = some (.slice none 0 0) := (xc BK867.out 0).trans rfl; have hfz60_0 := xf BK867.out 0; have hcz61_0 : w55.cell? ⟨gb863, 0, none⟩ = some (.int .i64 t859) := (xc BK863.out 0).trans rfl; have hcz61_1 : w55.cell? ⟨gb863, 1, none⟩ = some (.slice Ao52 t860.length co52) := (xc BK863.out 1).trans rfl; have hfz61_0 := xf BK863.out 0; have hfz61_1 := xf BK863.out 1) | ((with_reducible refine gate_callee (f := 67) rfl ?_); refine goesL_ (some 37) rfl rfl Try.func67 (by kernel_rfl) rfl #[.agg #[.int .i64 t859, .slice Ao52 t860.length co52], .agg #[.slice Ao56 t864.length co56]] rfl (by (try simp only [List.map_toArray, List.map_cons, List.map_nil]); first | done | rfl | (simp only [List.length_drop, List.length_take]; rfl)) ?_; (with_reducible refine (impl_WeightOf.calls k t859 _ _ t860 _ _ t864 t868 t869 _ ?side1 ?side2 ?side3 ?side4 A24.out).mono ?_); (case side1 => refine (Kd.S_reads' (e := 126) (base := w.heap.size) (ok := fun k_ => (((True ∧ some k_ ≠ (.slice Ao43 t851.length co43 : Value).ownBlock) ∧ some k_ ≠ (.slice Ao44 t854.length co44 : Value).ownBlock) ∧ some k_ ≠ (.slice Ao56 t864.length co56 : Value).ownBlock)) (n := t860.length) (c := co52) ?_).2.2; exact (by (with_reducible repeat (first | apply Kd.S_alloc | apply Kd.S_drewN | apply Kd.S_drew)); exact (Kd.S_mono (Kd.S_far (p := ⟨gb867, 0, none⟩) (Kd.S_types HO862.out BK867.out (by decide)) (fun _ hk => hk.2) (.slice Ao56 t864.length co56)) (fun _ h_ => h_.1)))); (case side2 => exact (Kd.S_reads' HO862.out).2.1); (case side3 => refine (Kd.R_reads' (e := 3) (base := w.heap.size) (ok := fun k_ => (True ∧ some k_ ≠ (.slice Ao44 t854.length co44 : Value).ownBlock)) (n := t864.length) (c := co56) ?_).2.2; exact (by (with_reducible repeat (first | apply Kd.R_alloc | apply Kd.R_drewN | apply Kd.R_drew)); exact (Kd.R_mono (Kd.R_far (p := ⟨gb867, 0, none⟩) (Kd.R_types HO866.out BK867.out (by decide)) (fun _ hk => hk.2) (.slice Ao56 t864.length co56)) (fun _ h_ => h_.1)))); (case side4 => exact (Kd.R_reads' HO866.out).2.1); rintro e w62 ⟨rfl, hb⟩; refine ⟨_, rfl, ?_⟩; have n0_ := xm (Kd.S_below (by (with_reducible repeat (first | apply Kd.S_alloc | apply Kd.S_drewN | apply Kd.S_drew)); exact (Kd.S_mono (Kd.S_far (p := ⟨gb867, 0, none⟩) (Kd.S_types HO853.out BK867.out (by decide)) (fun _ hk => hk.2) (.slice Ao56 t864.length co56)) (fun _ h_ => h_.1))) hb); have n1_ := xm (Kd.R_below (by (with_reducible repeat (first | apply Kd.R_alloc | apply Kd.R_drewN | apply Kd.R_drew)); exact (Kd.R_mono (Kd.R_far (p := ⟨gb867, 0, none⟩) (Kd.R_types HO856.out BK867.out (by decide)) (fun _ hk => hk.2) (.slice Ao56 t864.length co56)) (fun _ h_ => h_.1))) hb); have n2_ := xm (Kd.S_below (by (with_reducible repeat (first | apply Kd.S_alloc | apply Kd.S_drewN | apply Kd.S_drew)); exact (Kd.S_mono (Kd.S_far (p := ⟨gb867, 0, none⟩) (Kd.S_types HO862.out BK867.out (by decide)) (fun _ hk => hk.2) (.slice Ao56 t864.length co56)) (fun _ h_ => h_.1))) hb); have n3_ := xm (Kd.R_below (by (with_reducible repeat (first | apply Kd.R_alloc | apply Kd.R_drewN | apply Kd.R_drew)); exact (Kd.R_mono (Kd.R_far (p := ⟨gb867, 0, none⟩) (Kd.R_types HO866.out BK867.out (by decide)) (fun _ hk => hk.2) (.slice Ao56 t864.length co56)) (fun _ h_ => h_.1))) hb); have n4_ := xm (blk_below (g := gb846) (o := .cells #[.int .i64 a0_0, .slice A0_1 l0_1.length c0_1] 56 (0, 0)) (by (with_reducible repeat (first | refine xq ?_ _ | refine xr ?_ | refine xo ?_ _)); refine blk_far ?_ NB846_867.out _; (with_reducible repeat (first | refine xq ?_ _ | refine xr ?_ | refine xo ?_ _)); exact BK846.out) hb); have n5_ := xm (blk_below (g := gb847) (o := .cells #[.slice A1_0 l1_0.length c1_0] 24 (0, 0)) (by (with_reducible repeat (first | refine xq ?_ _ | refine xr ?_ | refine xo ?_ _)); refine blk_far ?_ NB847_867.out _; (with_reducible repeat (first | refine xq ?_ _ | refine xr ?_ | refine xo ?_ _)); exact BK847.out) hb); have n6_ := xm (blk_below (g := gb863) (o := .cells #[.int .i64 t859, .slice Ao52 t860.length co52] 41 (0, 0)) (by (with_reducible repeat (first | refine xq ?_ _ | refine xr ?_ | refine xo ?_ _)); refine blk_far ?_ NB863_867.out _; (with_reducible repeat (first | refine xq ?_ _ | refine xr ?_ | refine xo ?_ _)); exact BK863.out) hb); have n7_ := xm (blk_below (g := gb867) (o := .cells #[.slice Ao56 t864.length co56] 26 (0, 0)) (by (with_reducible repeat (first | refine xq ?_ _ | refine xr ?_ | refine xo ?_ _)); refine blk_put (cs := #[.slice none 0 0]) ?_ 0 _ rfl; (with_reducible repeat (first | refine xq ?_ _ | refine xr ?_ | refine xo ?_ _)); exact BK867.out) hb); have n8_ := xm (below_step (by repeat (first | (with_reducible first | exact HB.out | apply xa | apply xn | apply xd | refine xt ?_ GE846.out | refine xt ?_ GE847.out | refine xt ?_ GE863.out | refine xt ?_ GE867.out) | exact HB.out)) hb); clear HO853; clear HO856; clear HO862; clear HO866; clear BK846; clear BK847; clear BK863; clear BK867; clear HB; have HO853 := n0_; have HO856 := n1_; have HO862 := n2_; have HO866 := n3_; have BK846 := n4_; have BK847 := n5_; have BK863 := n6_; have BK867 := n7_; have HB := n8_; clear n0_ n1_ n2_ n3_ n4_ n5_ n6_ n7_ n8_; (try clear hb); (try clear hb2); (try clear hk); (try clear hi)))
       have n0_ := xm (Kd.S_drew HO853.out)
       have n1_ := xm (Kd.R_drew HO856.out)
       have n2_ := xm (Kd.S_drew HO862.out)
       have n3_ := xm (Kd.R_drew HO866.out)
       have n4_ := xm (xr BK846.out)
       have n5_ := xm (xr BK847.out)
       have n6_ := xm (xr BK863.out)
       have n7_ := xm (xr BK867.out)
       have n8_ := xm (xd HB.out)
       clear HO853
       clear HO856
       clear HO862
       clear HO866
       clear BK846
       clear BK847
       clear BK863
       clear BK867
       clear HB
       have HO853 := n0_
       have HO856 := n1_
       have HO862 := n2_
       have HO866 := n3_
       have BK846 := n4_
       have BK847 := n5_
       have BK863 := n6_
       have BK867 := n7_
       have HB := n8_
       clear n0_ n1_ n2_ n3_ n4_ n5_ n6_ n7_ n8_
       refine start_ (n := 5) (S := fun w' => w'.cell? ⟨gb863, 0, none⟩ = some (.int .i64 t859) ∧ w'.cell? ⟨gb863, 1, none⟩ = some (.slice Ao52 t860.length co52) ∧ w'.cell? ⟨gb846, 0, none⟩ = some (.int .i64 a0_0) ∧ w'.cell? ⟨gb846, 1, none⟩ = some (.slice A0_1 l0_1.length c0_1)) (ds := []) #[false, false, false, false, false] (by kernel_rfl) rfl rfl ⟨(xc BK863.out 0).trans rfl, (xc BK863.out 1).trans rfl, (xc BK846.out 0).trans rfl, (xc BK846.out 1).trans rfl⟩ (fun hHeld => ?_)
       generalize w62.drew = w63 at HO853 HO856 HO862 HO866 BK846 BK847 BK863 BK867 HB hHeld ⊢
       refine take_ (i := 0) (N := some 48) (v := ?_) (a' := ?_) #[true, false, false, false, false] rfl rfl (by kernel_rfl) (fun _ _ _ h => h) (Or.inl ⟨by rfl, ?_⟩) hHeld ?_ ?_
       rotate_left
       ·rintro w' ⟨s0, s1, s2, s3⟩
        go_simp
        with_reducible rfl
       rotate_left
       ·simp only [Act.put, xi, xj, xk, i64_w, i32_w]
        rfl
       refine take_ (i := 1) (N := some 49) (v := ?_) (a' := ?_) #[true, true, false, false, false] rfl rfl (by kernel_rfl) (fun _ _ _ h => h) (Or.inl ⟨by rfl, ?_⟩) hHeld ?_ ?_
       rotate_left
       ·rintro w' ⟨s0, s1, s2, s3⟩
        go_simp
        with_reducible rfl
       rotate_left
       ·simp only [Act.put, xi, xj, xk, i64_w, i32_w]
        rfl
       refine one_ (i := 2) (N := some 50) #[true, true, true, false, false] rfl rfl (by kernel_rfl) (by decide) (fun K hK => ?_)
       refine goes_ Try.func42 (by kernel_rfl) rfl #[.agg #[.int .i64 a0_0, .slice A0_1 l0_1.length c0_1]] (by rfl) rfl rfl (by (try simp only [List.map_toArray, List.map_cons, List.map_nil]); first | done | rfl | (simp only [List.length_drop, List.length_take]; rfl)) ?_
       with_reducible refine (laws_toTable.calls k a0_0 _ _ l0_1 t870 t871 _ ?side1 ?side2 A27.out).mono ?_
       (case side1 => repeat (first | exact (Kd.C_below HR0_1.out HB.out) | (with_reducible refine Kd.C_alloc ?_ _) | (with_reducible refine Kd.C_drewN ?_ _) | (with_reducible refine Kd.C_drew ?_)))
       (case side2 => exact HC0_1.out)
       rintro e w64 ⟨v872, rfl, ho0, hb⟩
       refine ⟨_, rfl, ?_⟩
       have n0_ := xm (Kd.S_elder' (by (with_reducible repeat (first | apply Kd.S_alloc | apply Kd.S_drewN | apply Kd.S_drew)); exact HO853.out) (Kd.S_base ho0) hb)
       have n1_ := xm (Kd.R_below (by (with_reducible repeat (first | apply Kd.R_alloc | apply Kd.R_drewN | apply Kd.R_drew)); exact HO856.out) hb)
       have n2_ := xm (Kd.S_elder' (by (with_reducible repeat (first | apply Kd.S_alloc | apply Kd.S_drewN | apply Kd.S_drew)); exact HO862.out) (Kd.S_base ho0) hb)
       have n3_ := xm (Kd.R_below (by (with_reducible repeat (first | apply Kd.R_alloc | apply Kd.R_drewN | apply Kd.R_drew)); exact HO866.out) hb)
       have n4_ := xm (Kd.S_lower (Kd.S_new' (Kd.S_new' (Kd.S_new' (Kd.S_new' ho0 (Kd.S_lt (by (with_reducible repeat (first | apply Kd.S_alloc | apply Kd.S_drewN | apply Kd.S_drew)); exact HO853.out))) (Kd.R_lt (by (with_reducible repeat (first | apply Kd.R_alloc | apply Kd.R_drewN | apply Kd.R_drew)); exact HO856.out))) (Kd.S_lt (by (with_reducible repeat (first | apply Kd.S_alloc | apply Kd.S_drewN | apply Kd.S_drew)); exact HO862.out))) (Kd.R_lt (by (with_reducible repeat (first | apply Kd.R_alloc | apply Kd.R_drewN | apply Kd.R_drew)); exact HO866.out))) (xz (by repeat (first | (with_reducible first | exact HB.out | apply xa | apply xn | apply xd | refine xt ?_ GE846.out | refine xt ?_ GE847.out | refine xt ?_ GE863.out | refine xt ?_ GE867.out) | exact HB.out))))
       have n5_ := xm (blk_below (g := gb846) (o := .cells #[.int .i64 a0_0, .slice A0_1 l0_1.length c0_1] 56 (0, 0)) (by (with_reducible repeat (first | refine xq ?_ _ | refine xr ?_ | refine xo ?_ _)); exact BK846.out) hb)
       have n6_ := xm (blk_below (g := gb847) (o := .cells #[.slice A1_0 l1_0.length c1_0] 24 (0, 0)) (by (with_reducible repeat (first | refine xq ?_ _ | refine xr ?_ | refine xo ?_ _)); exact BK847.out) hb)
       have n7_ := xm (blk_below (g := gb863) (o := .cells #[.int .i64 t859, .slice Ao52 t860.length co52] 41 (0, 0)) (by (with_reducible repeat (first | refine xq ?_ _ | refine xr ?_ | refine xo ?_ _)); exact BK863.out) hb)
       have n8_ := xm (blk_below (g := gb867) (o := .cells #[.slice Ao56 t864.length co56] 26 (0, 0)) (by (with_reducible repeat (first | refine xq ?_ _ | refine xr ?_ | refine xo ?_ _)); exact BK867.out) hb)
       have n9_ := xm (below_step (by repeat (first | (with_reducible first | exact HB.out | apply xa | apply xn | apply xd | refine xt ?_ GE846.out | refine xt ?_ GE847.out | refine xt ?_ GE863.out | refine xt ?_ GE867.out) | exact HB.out)) hb)
       clear HO853
       clear HO856
       clear HO862
       clear HO866
       clear BK846
       clear BK847
       clear BK863
       clear BK867
       clear HB
       have HO853 := n0_
       have HO856 := n1_
       have HO862 := n2_
       have HO866 := n3_
       have HO873 := n4_
       have BK846 := n5_
       have BK847 := n6_
       have BK863 := n7_
       have BK867 := n8_
       have HB := n9_
       clear n0_ n1_ n2_ n3_ n4_ n5_ n6_ n7_ n8_ n9_
       (try clear hb)
       (try clear hb2)
       (try clear hk)
       (try clear hi)
       (try clear ho0)
       obtain ⟨Ao65, co65, eo65⟩ := Kd.S_slice HO873.out
       (first | subst eo65 | (injection eo65 with f1_ f2_ f3_; have f4_ := f1_.symm; have f5_ := f3_.symm; clear f1_ f2_ f3_; subst f4_; subst f5_))
       refine hK.out _ _ ⟨(xc BK863.out 0).trans rfl, (xc BK863.out 1).trans rfl, (xc BK846.out 0).trans rfl, (xc BK846.out 1).trans rfl⟩ (fun hHeld => ?_)
       clear hK K
       refine norm_ (a' := ?_) ?_ ?_
       rotate_left
       ·show Act.put _ (some 50) _ = _
        simp only [Act.put, xi, xj, xk, i64_w, i32_w]
        rfl
       refine one_ (i := 3) (N := some 51) #[true, true, true, true, false] rfl rfl (by kernel_rfl) (by decide) (fun K hK => ?_)
       refine goes_ Try.func32 (by kernel_rfl) rfl #[.agg #[.int .i64 t859, .slice Ao52 t860.length co52], .agg #[.int .i64 t870, .slice Ao65 t871.length co65]] (by rfl) rfl rfl (by (try simp only [List.map_toArray, List.map_cons, List.map_nil]); first | done | rfl | (simp only [List.length_drop, List.length_take]; rfl)) ?_
       with_reducible refine (laws_eqTable.calls k t859 _ _ t860 t870 _ _ t871 true _ ?side1 ?side2 ?side3 ?side4 A28.out).mono ?_
       (case side1 => repeat (first | exact (Kd.S_reads' HO862.out).2.2 | (with_reducible refine Kd.C_alloc ?_ _) | (with_reducible refine Kd.C_drewN ?_ _) | (with_reducible refine Kd.C_drew ?_)))
       (case side2 => exact (Kd.S_reads' HO862.out).2.1)
       (case side3 => repeat (first | exact (Kd.S_reads' HO873.out).2.2 | (with_reducible refine Kd.C_alloc ?_ _) | (with_reducible refine Kd.C_drewN ?_ _) | (with_reducible refine Kd.C_drew ?_)))
       (case side4 => exact (Kd.S_reads' HO873.out).2.1)
       rintro e w66 ⟨rfl, hb⟩
       refine ⟨_, rfl, ?_⟩
       have n0_ := xm (Kd.S_below (by (with_reducible repeat (first | apply Kd.S_alloc | apply Kd.S_drewN | apply Kd.S_drew)); exact HO853.out) hb)
       have n1_ := xm (Kd.R_below (by (with_reducible repeat (first | apply Kd.R_alloc | apply Kd.R_drewN | apply Kd.R_drew)); exact HO856.out) hb)
       have n2_ := xm (Kd.S_below (by (with_reducible repeat (first | apply Kd.S_alloc | apply Kd.S_drewN | apply Kd.S_drew)); exact HO862.out) hb)
       have n3_ := xm (Kd.R_below (by (with_reducible repeat (first | apply Kd.R_alloc | apply Kd.R_drewN | apply Kd.R_drew)); exact HO866.out) hb)
       have n4_ := xm (Kd.S_below (by (with_reducible repeat (first | apply Kd.S_alloc | apply Kd.S_drewN | apply Kd.S_drew)); exact HO873.out) hb)
       have n5_ := xm (blk_below (g := gb846) (o := .cells #[.int .i64 a0_0, .slice A0_1 l0_1.length c0_1] 56 (0, 0)) (by (with_reducible repeat (first | refine xq ?_ _ | refine xr ?_ | refine xo ?_ _)); exact BK846.out) hb)
       have n6_ := xm (blk_below (g := gb847) (o := .cells #[.slice A1_0 l1_0.length c1_0] 24 (0, 0)) (by (with_reducible repeat (first | refine xq ?_ _ | refine xr ?_ | refine xo ?_ _)); exact BK847.out) hb)
       have n7_ := xm (blk_below (g := gb863) (o := .cells #[.int .i64 t859, .slice Ao52 t860.length co52] 41 (0, 0)) (by (with_reducible repeat (first | refine xq ?_ _ | refine xr ?_ | refine xo ?_ _)); exact BK863.out) hb)
       have n8_ := xm (blk_below (g := gb867) (o := .cells #[.slice Ao56 t864.length co56] 26 (0, 0)) (by (with_reducible repeat (first | refine xq ?_ _ | refine xr ?_ | refine xo ?_ _)); exact BK867.out) hb)
       have n9_ := xm (below_step (by repeat (first | (with_reducible first | exact HB.out | apply xa | apply xn | apply xd | refine xt ?_ GE846.out | refine xt ?_ GE847.out | refine xt ?_ GE863.out | refine xt ?_ GE867.out) | exact HB.out)) hb)
       clear HO853
       clear HO856
       clear HO862
       clear HO866
       clear HO873
       clear BK846
       clear BK847
       clear BK863
       clear BK867
       clear HB
       have HO853 := n0_
       have HO856 := n1_
       have HO862 := n2_
       have HO866 := n3_
       have HO873 := n4_
       have BK846 := n5_
       have BK847 := n6_
       have BK863 := n7_
       have BK867 := n8_
       have HB := n9_
       clear n0_ n1_ n2_ n3_ n4_ n5_ n6_ n7_ n8_ n9_
       (try clear hb)
       (try clear hb2)
       (try clear hk)
       (try clear hi)
       refine hK.out _ _ ⟨(xc BK863.out 0).trans rfl, (xc BK863.out 1).trans rfl, (xc BK846.out 0).trans rfl, (xc BK846.out 1).trans rfl⟩ (fun hHeld => ?_)
       clear hK K
       refine norm_ (a' := ?_) ?_ ?_
       rotate_left
       ·show Act.put _ (some 51) _ = _
        simp only [Act.put, xi, xj, xk, i64_w, i32_w]
        rfl
       refine pure_ (i := 4) (N := some 52) (v := ?_) (a' := ?_) #[true, true, true, true, true] rfl rfl (by kernel_rfl) (fun _ _ _ h => h) (Or.inl ⟨by rfl, ?_⟩) ?_ ?_
       rotate_left
       ·intro w'
        go_simp
        with_reducible rfl
       rotate_left
       ·simp only [Act.put, xi, xj, xk, i64_w, i32_w]
        rfl
       refine done_ (by kernel_rfl) ?_
       try go_wp2
       have n0_ := xm (Kd.S_drew HO853.out)
       have n1_ := xm (Kd.R_drew HO856.out)
       have n2_ := xm (Kd.S_drew HO862.out)
       have n3_ := xm (Kd.R_drew HO866.out)
       have n4_ := xm (Kd.S_drew HO873.out)
       have n5_ := xm (xr BK846.out)
       have n6_ := xm (xr BK847.out)
       have n7_ := xm (xr BK863.out)
       have n8_ := xm (xr BK867.out)
       have n9_ := xm (xd HB.out)
       clear HO853
       clear HO856
       clear HO862
       clear HO866
       clear HO873
       clear BK846
       clear BK847
       clear BK863
       clear BK867
       clear HB
       have HO853 := n0_
       have HO856 := n1_
       have HO862 := n2_
       have HO866 := n3_
       have HO873 := n4_
       have BK846 := n5_
       have BK847 := n6_
       have BK863 := n7_
       have BK867 := n8_
       have HB := n9_
       clear n0_ n1_ n2_ n3_ n4_ n5_ n6_ n7_ n8_ n9_
       refine start_ (n := 5) (S := fun w' => w'.cell? ⟨gb867, 0, none⟩ = some (.slice Ao56 t864.length co56) ∧ w'.cell? ⟨gb847, 0, none⟩ = some (.slice A1_0 l1_0.length c1_0)) (ds := []) #[false, false, false, false, false] (by kernel_rfl) rfl rfl ⟨(xc BK867.out 0).trans rfl, (xc BK847.out 0).trans rfl⟩ (fun hHeld => ?_)
       generalize w66.drew = w67 at HO853 HO856 HO862 HO866 HO873 BK846 BK847 BK863 BK867 HB hHeld ⊢
       refine take_ (i := 0) (N := some 53) (v := ?_) (a' := ?_) #[true, false, false, false, false] rfl rfl (by kernel_rfl) (fun _ _ _ h => h) (Or.inl ⟨by rfl, ?_⟩) hHeld ?_ ?_
       rotate_left
       ·rintro w' ⟨s0, s1⟩
        go_simp
        with_reducible rfl
       rotate_left
       ·simp only [Act.put, xi, xj, xk, i64_w, i32_w]
        rfl
       refine take_ (i := 1) (N := some 54) (v := ?_) (a' := ?_) #[true, true, false, false, false] rfl rfl (by kernel_rfl) (fun _ _ _ h => h) (Or.inl ⟨by rfl, ?_⟩) hHeld ?_ ?_
       rotate_left
       ·rintro w' ⟨s0, s1⟩
        go_simp
        with_reducible rfl
       rotate_left
       ·simp only [Act.put, xi, xj, xk, i64_w, i32_w]
        rfl
       refine one_ (i := 2) (N := some 55) #[true, true, true, false, false] rfl rfl (by kernel_rfl) (by decide) (fun K hK => ?_)
       refine goes_ Try.func20 (by kernel_rfl) rfl #[.agg #[.slice A1_0 l1_0.length c1_0]] (by rfl) rfl rfl (by (try simp only [List.map_toArray, List.map_cons, List.map_nil]); first | done | rfl | (simp only [List.length_drop, List.length_take]; rfl)) ?_
       with_reducible refine (laws_toRow.calls k _ _ l1_0 t875 _ ?side1 ?side2 A30.out).mono ?_
       (case side1 => repeat (first | exact (Kd.C_below HR1_0.out HB.out) | (with_reducible refine Kd.C_alloc ?_ _) | (with_reducible refine Kd.C_drewN ?_ _) | (with_reducible refine Kd.C_drew ?_)))
       (case side2 => exact HC1_0.out)
       rintro e w68 ⟨v876, rfl, ho0, hb⟩
       refine ⟨_, rfl, ?_⟩
       have n0_ := xm (Kd.S_elder' (by (with_reducible repeat (first | apply Kd.S_alloc | apply Kd.S_drewN | apply Kd.S_drew)); exact HO853.out) (Kd.R_base ho0) hb)
       have n1_ := xm (Kd.R_elder' (by (with_reducible repeat (first | apply Kd.R_alloc | apply Kd.R_drewN | apply Kd.R_drew)); exact HO856.out) (Kd.R_base ho0) hb)
       have n2_ := xm (Kd.S_elder' (by (with_reducible repeat (first | apply Kd.S_alloc | apply Kd.S_drewN | apply Kd.S_drew)); exact HO862.out) (Kd.R_base ho0) hb)
       have n3_ := xm (Kd.R_elder' (by (with_reducible repeat (first | apply Kd.R_alloc | apply Kd.R_drewN | apply Kd.R_drew)); exact HO866.out) (Kd.R_base ho0) hb)
       have n4_ := xm (Kd.S_elder' (by (with_reducible repeat (first | apply Kd.S_alloc | apply Kd.S_drewN | apply Kd.S_drew)); exact HO873.out) (Kd.R_base ho0) hb)
       have n5_ := xm (Kd.R_lower (Kd.R_new' (Kd.R_new' ho0 (Kd.R_lt (by (with_reducible repeat (first | apply Kd.R_alloc | apply Kd.R_drewN | apply Kd.R_drew)); exact HO856.out))) (Kd.R_lt (by (with_reducible repeat (first | apply Kd.R_alloc | apply Kd.R_drewN | apply Kd.R_drew)); exact HO866.out))) (xz (by repeat (first | (with_reducible first | exact HB.out | apply xa | apply xn | apply xd | refine xt ?_ GE846.out | refine xt ?_ GE847.out | refine xt ?_ GE863.out | refine xt ?_ GE867.out) | exact HB.out))))
       have n6_ := xm (blk_below (g := gb846) (o := .cells #[.int .i64 a0_0, .slice A0_1 l0_1.length c0_1] 56 (0, 0)) (by (with_reducible repeat (first | refine xq ?_ _ | refine xr ?_ | refine xo ?_ _)); exact BK846.out) hb)
       have n7_ := xm (blk_below (g := gb847) (o := .cells #[.slice A1_0 l1_0.length c1_0] 24 (0, 0)) (by (with_reducible repeat (first | refine xq ?_ _ | refine xr ?_ | refine xo ?_ _)); exact BK847.out) hb)
       have n8_ := xm (blk_below (g := gb863) (o := .cells #[.int .i64 t859, .slice Ao52 t860.length co52] 41 (0, 0)) (by (with_reducible repeat (first | refine xq ?_ _ | refine xr ?_ | refine xo ?_ _)); exact BK863.out) hb)
       have n9_ := xm (blk_below (g := gb867) (o := .cells #[.slice Ao56 t864.length co56] 26 (0, 0)) (by (with_reducible repeat (first | refine xq ?_ _ | refine xr ?_ | refine xo ?_ _)); exact BK867.out) hb)
       have n10_ := xm (below_step (by repeat (first | (with_reducible first | exact HB.out | apply xa | apply xn | apply xd | refine xt ?_ GE846.out | refine xt ?_ GE847.out | refine xt ?_ GE863.out | refine xt ?_ GE867.out) | exact HB.out)) hb)
       clear HO853
       clear HO856
       clear HO862
       clear HO866
       clear HO873
       clear BK846
       clear BK847
       clear BK863
       clear BK867
       clear HB
       have HO853 := n0_
       have HO856 := n1_
       have HO862 := n2_
       have HO866 := n3_
       have HO873 := n4_
       have HO877 := n5_
       have BK846 := n6_
       have BK847 := n7_
       have BK863 := n8_
       have BK867 := n9_
       have HB := n10_
       clear n0_ n1_ n2_ n3_ n4_ n5_ n6_ n7_ n8_ n9_ n10_
       (try clear hb)
       (try clear hb2)
       (try clear hk)
       (try clear hi)
       (try clear ho0)
       obtain ⟨Ao69, co69, eo69⟩ := Kd.R_slice HO877.out
       (first | subst eo69 | (injection eo69 with f1_ f2_ f3_; have f4_ := f1_.symm; have f5_ := f3_.symm; clear f1_ f2_ f3_; subst f4_; subst f5_))
       refine hK.out _ _ ⟨(xc BK867.out 0).trans rfl, (xc BK847.out 0).trans rfl⟩ (fun hHeld => ?_)
       clear hK K
       refine norm_ (a' := ?_) ?_ ?_
       rotate_left
       ·show Act.put _ (some 55) _ = _
        simp only [Act.put, xi, xj, xk, i64_w, i32_w]
        rfl
       refine one_ (i := 3) (N := some 56) #[true, true, true, true, false] rfl rfl (by kernel_rfl) (by decide) (fun K hK => ?_)
       refine goes_ Try.func23 (by kernel_rfl) rfl #[.agg #[.slice Ao56 t864.length co56], .agg #[.slice Ao69 t875.length co69]] (by rfl) rfl rfl (by (try simp only [List.map_toArray, List.map_cons, List.map_nil]); first | done | rfl | (simp only [List.length_drop, List.length_take]; rfl)) ?_
       with_reducible refine (laws_eqRow.calls k _ _ t864 _ _ t875 true _ ?side1 ?side2 ?side3 ?side4 A31.out).mono ?_
       (case side1 => repeat (first | exact (Kd.R_reads' HO866.out).2.2 | (with_reducible refine Kd.C_alloc ?_ _) | (with_reducible refine Kd.C_drewN ?_ _) | (with_reducible refine Kd.C_drew ?_)))
       (case side2 => exact (Kd.R_reads' HO866.out).2.1)
       (case side3 => repeat (first | exact (Kd.R_reads' HO877.out).2.2 | (with_reducible refine Kd.C_alloc ?_ _) | (with_reducible refine Kd.C_drewN ?_ _) | (with_reducible refine Kd.C_drew ?_)))
       (case side4 => exact (Kd.R_reads' HO877.out).2.1)
       rintro e w70 ⟨rfl, hb⟩
       refine ⟨_, rfl, ?_⟩
       have n0_ := xm (Kd.S_below (by (with_reducible repeat (first | apply Kd.S_alloc | apply Kd.S_drewN | apply Kd.S_drew)); exact HO853.out) hb)
       have n1_ := xm (Kd.R_below (by (with_reducible repeat (first | apply Kd.R_alloc | apply Kd.R_drewN | apply Kd.R_drew)); exact HO856.out) hb)
       have n2_ := xm (Kd.S_below (by (with_reducible repeat (first | apply Kd.S_alloc | apply Kd.S_drewN | apply Kd.S_drew)); exact HO862.out) hb)
       have n3_ := xm (Kd.R_below (by (with_reducible repeat (first | apply Kd.R_alloc | apply Kd.R_drewN | apply Kd.R_drew)); exact HO866.out) hb)
       have n4_ := xm (Kd.S_below (by (with_reducible repeat (first | apply Kd.S_alloc | apply Kd.S_drewN | apply Kd.S_drew)); exact HO873.out) hb)
       have n5_ := xm (Kd.R_below (by (with_reducible repeat (first | apply Kd.R_alloc | apply Kd.R_drewN | apply Kd.R_drew)); exact HO877.out) hb)
       have n6_ := xm (blk_below (g := gb846) (o := .cells #[.int .i64 a0_0, .slice A0_1 l0_1.length c0_1] 56 (0, 0)) (by (with_reducible repeat (first | refine xq ?_ _ | refine xr ?_ | refine xo ?_ _)); exact BK846.out) hb)
       have n7_ := xm (blk_below (g := gb847) (o := .cells #[.slice A1_0 l1_0.length c1_0] 24 (0, 0)) (by (with_reducible repeat (first | refine xq ?_ _ | refine xr ?_ | refine xo ?_ _)); exact BK847.out) hb)
       have n8_ := xm (blk_below (g := gb863) (o := .cells #[.int .i64 t859, .slice Ao52 t860.length co52] 41 (0, 0)) (by (with_reducible repeat (first | refine xq ?_ _ | refine xr ?_ | refine xo ?_ _)); exact BK863.out) hb)
       have n9_ := xm (blk_below (g := gb867) (o := .cells #[.slice Ao56 t864.length co56] 26 (0, 0)) (by (with_reducible repeat (first | refine xq ?_ _ | refine xr ?_ | refine xo ?_ _)); exact BK867.out) hb)
       have n10_ := xm (below_step (by repeat (first | (with_reducible first | exact HB.out | apply xa | apply xn | apply xd | refine xt ?_ GE846.out | refine xt ?_ GE847.out | refine xt ?_ GE863.out | refine xt ?_ GE867.out) | exact HB.out)) hb)
       clear HO853
       clear HO856
       clear HO862
       clear HO866
       clear HO873
       clear HO877
       clear BK846
       clear BK847
       clear BK863
       clear BK867
       clear HB
       have HO853 := n0_
       have HO856 := n1_
       have HO862 := n2_
       have HO866 := n3_
       have HO873 := n4_
       have HO877 := n5_
       have BK846 := n6_
       have BK847 := n7_
       have BK863 := n8_
       have BK867 := n9_
       have HB := n10_
       clear n0_ n1_ n2_ n3_ n4_ n5_ n6_ n7_ n8_ n9_ n10_
       (try clear hb)
       (try clear hb2)
       (try clear hk)
       (try clear hi)
       refine hK.out _ _ ⟨(xc BK867.out 0).trans rfl, (xc BK847.out 0).trans rfl⟩ (fun hHeld => ?_)
       clear hK K
       refine norm_ (a' := ?_) ?_ ?_
       rotate_left
       ·show Act.put _ (some 56) _ = _
        simp only [Act.put, xi, xj, xk, i64_w, i32_w]
        rfl
       refine pure_ (i := 4) (N := some 57) (v := ?_) (a' := ?_) #[true, true, true, true, true] rfl rfl (by kernel_rfl) (fun _ _ _ h => h) (Or.inl ⟨by rfl, ?_⟩) ?_ ?_
       rotate_left
       ·intro w'
        go_simp
        with_reducible rfl
       rotate_left
       ·simp only [Act.put, xi, xj, xk, i64_w, i32_w]
        rfl
       refine done_ (by kernel_rfl) ?_
       try go_wp2
       go_ret
       exact ⟨by first | rfl | (simp [errW_none, errW_some] <;> rfl) | (simp [*, errW_none, errW_some] <;> rfl), by repeat (first | (with_reducible first | exact HB.out | apply xa | apply xn | apply xd | refine xt ?_ GE846.out | refine xt ?_ GE847.out | refine xt ?_ GE863.out | refine xt ?_ GE867.out) | exact HB.out)⟩
      ·replace c32 := Bool.eq_false_iff.mpr c32
       subst c32
       have H1 : (some false) = some true := by first | (with_reducible rfl) | (rw [if_neg (show ¬ (false = true) by decide)] at H; exact H)
       clear H
       have H := H1
       clear H1
       exact absurd H (by simp)
     ·replace c29 := Bool.eq_false_iff.mpr c29
      subst c29
      have H1 : (some false) = some true := by first | (with_reducible rfl) | (rw [if_neg (show ¬ (false = true) by decide)] at H; exact H)
      clear H
      have H := H1
      clear H1
      exact absurd H (by simp)
   ·rw [if_neg c25] at H
    have c25b0 : (t868 == t857) = false := beq_eq_false_iff_ne.mpr c25
    have c25b1 : (t868 != t857) = true := bne_iff_ne.mpr c25
    exact absurd H (by simp)

/-- THE ONE PURE STATEMENT of laws_FnExactWeightOf. -/
def laws_FnExactWeightOf.Pure : Prop := ∀ x0 : S56, wf56 x0 → ∀ x1 : S24, wf24 x1 → ∃ k, laws_FnExactWeightOf.f k x0.f0 x0.f1 x1.f0 = some true

end Go.Proofs.Ytcbikaoackbbjaa.G
