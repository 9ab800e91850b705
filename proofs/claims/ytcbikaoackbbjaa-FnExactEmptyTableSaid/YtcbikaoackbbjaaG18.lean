/- Written by a program of this claim's own, out of the translation: functions of the program as plain functions, and that the calls answer as these. No conditions. -/
import Derived.Test.YtcbikaoackbbjaaG0
import Derived.Test.YtcbikaoackbbjaaG16
import Derived.Test.YtcbikaoackbbjaaG17
import Derived.Test.YtcbikaoackbbjaaG19
import Derived.Test.YtcbikaoackbbjaaG20
namespace Go.Proofs.Ytcbikaoackbbjaa.G
open Go.RowKit Go.Proofs.Ytcbikaoackbbjaa.X Go.Proofs.YtcbikaoackbbjaaW.PrintWords Go.Proofs.YtcbikaoackbbjaaW.PrintLast Go.Proofs.YtcbikaoackbbjaaW.PrintMore
attribute [local go_sem] max2_int min2_int max_two min_two max_three min_three max_four min_four   -- for this text's walks alone
set_option linter.unusedVariables false
set_option linter.unusedSimpArgs false

/-! ### spec_l2OwnRow: function 139 -/
def spec_l2OwnRow.f (l0_0 : List Int) : Option (List Int) := (some (([] : List Int) : List Int)).bind fun y287 => (if y287.length + l0_0.length < 17592186044416 then (some (y287 ++ l0_0)) else (none))
set_option maxHeartbeats 8000000 in
set_option maxRecDepth 100000 in
theorem spec_l2OwnRow.calls (A0_0 : Option Addr) (c0_0 : Nat) (l0_0 : List Int) (r : List Int) (w : World) (hr0_0 : Kd.C (Kd.int .i64) w A0_0 l0_0.length l0_0) (hc0_0 : l0_0.length ≤ c0_0) (h : spec_l2OwnRow.f l0_0 = some r) :
  Calls Try.prog 139 #[.agg #[.slice A0_0 l0_0.length c0_0]] w fun e w' => ∃ v0_ : Value, e = .returned (.agg #[v0_]) ∧ Kd.R (Kd.int .i64) 3 w' w.heap.size (fun _ => True) v0_ r ∧ Below w.heap.size w w' := by
 have hu26 := Try.underlying26
 have HR0_0 := xm hr0_0
 have HC0_0 := xm hc0_0
 clear hr0_0 hc0_0
 have HB := xm (Below.refl w.heap.size w)
 have H : ((some (([] : List Int) : List Int)).bind fun y287 => (if y287.length + l0_0.length < 17592186044416 then (some (y287 ++ l0_0)) else (none))) = some r := h
 clear h
 obtain ⟨y287, hy287⟩ : ∃ y_ : List Int, y_ = (([] : List Int)) := ⟨_, rfl⟩
 replace H : (if y287.length + l0_0.length < 17592186044416 then (some (y287 ++ l0_0)) else (none)) = some r := by first | (rw [hy287]; with_reducible exact H) | (have H2_ := (Option.bind_some _ _).symm.trans H; rw [hy287]; with_reducible exact H2_) | (have H2_ := (Option.bind_some _ _).symm.trans H; with_reducible exact H2_) | with_reducible exact H | (rw [hy287]; exact H) | exact H
 have Ny287 := xm hy287
 clear hy287
 by_cases c2 : y287.length + l0_0.length < 17592186044416
 ·rw [if_pos c2] at H
  have LMc2 := xm c2
  clear c2
  obtain ⟨y290, hy290⟩ : ∃ y_ : List Int, y_ = (y287 ++ l0_0) := ⟨_, rfl⟩
  replace H : (some y290) = some r := by first | (rw [hy290]; with_reducible exact H) | (have H2_ := (Option.bind_some _ _).symm.trans H; rw [hy290]; with_reducible exact H2_) | (have H2_ := (Option.bind_some _ _).symm.trans H; with_reducible exact H2_) | with_reducible exact H | (rw [hy290]; exact H) | exact H
  have Ny290 := xm hy290
  clear hy290
  obtain rfl := Option.some.inj H
  go_enter Try.func139, Try.ntmps139
  go_wp2_with (first | ((with_reducible refine gate_dst (N := 1) rfl ?_); refine box_event ?hg (N := 1) ?hd (cs := #[.slice A0_0 l0_0.length c0_0]) (t := 26) ?hr ?_; (case hd => rfl); (case hg => rfl); (case hr => first | (go_simp; done) | (go_simp; rfl)); intro gb285 hg w3 hbox hb; have n0_ := xm (below_step (by repeat (first | (with_reducible first | exact HB.out | apply xa | apply xn | apply xd) | exact HB.out)) hb); have n1_ := xm (hbox); have n2_ := xm ((by rw [hg]; exact (xz (by repeat (first | (with_reducible first | exact HB.out | apply xa | apply xn | apply xd) | exact HB.out))) : w.heap.size ≤ gb285)); have n3_ := xm ((by rw [hg]; exact (xz (by repeat (first | (with_reducible first | exact HB.out | apply xa | apply xn | apply xd) | exact HB.out))) : w.heap.size ≤ gb285)); clear HB; have HB := n0_; have BK285 := n1_; have GW285 := n2_; have GE285 := n3_; clear n0_ n1_ n2_ n3_; clear hb hbox hg) | ((with_reducible refine gate_dst (N := 2) rfl ?_); refine box_event ?hg (N := 2) ?hd (cs := #[.slice none 0 0]) (t := 26) ?hr ?_; (case hd => rfl); (case hg => rfl); (case hr => first | (go_simp; done) | (go_simp; rfl)); intro gb286 hg w4 hbox hb; have n0_ := xm (blk_below (g := gb285) (o := .cells #[.slice A0_0 l0_0.length c0_0] 26 (0, 0)) (by (with_reducible repeat (first | refine xq ?_ _ | refine xr ?_ | refine xo ?_ _)); exact BK285.out) hb); have n1_ := xm (below_step (by repeat (first | (with_reducible first | exact HB.out | apply xa | apply xn | apply xd | refine xt ?_ GE285.out) | exact HB.out)) hb); have n2_ := xm (hbox); have n3_ := xm ((by rw [hg]; exact (xz (by repeat (first | (with_reducible first | exact HB.out | apply xa | apply xn | apply xd | refine xt ?_ GE285.out) | exact HB.out))) : w.heap.size ≤ gb286)); have n4_ := xm ((by rw [hg]; exact (xz (by repeat (first | (with_reducible first | exact HB.out | apply xa | apply xn | apply xd | refine xt ?_ GE285.out) | exact HB.out))) : w.heap.size ≤ gb286)); have n5_ := xm ((by rw [hg]; exact Nat.ne_of_lt (blk_lt (g := gb285) (o := .cells #[.slice A0_0 l0_0.length c0_0] 26 (0, 0)) (by (with_reducible repeat (first | refine xq ?_ _ | refine xr ?_ | refine xo ?_ _)); exact BK285.out)) : gb285 ≠ gb286)); have n6_ := xm ((by rw [hg]; exact Nat.ne_of_gt (blk_lt (g := gb285) (o := .cells #[.slice A0_0 l0_0.length c0_0] 26 (0, 0)) (by (with_reducible repeat (first | refine xq ?_ _ | refine xr ?_ | refine xo ?_ _)); exact BK285.out)) : gb286 ≠ gb285)); clear BK285; clear HB; have BK285 := n0_; have HB := n1_; have BK286 := n2_; have GW286 := n3_; have GE286 := n4_; have NB285_286 := n5_; have NB286_285 := n6_; clear n0_ n1_ n2_ n3_ n4_ n5_ n6_; clear hb hbox hg) | ((with_reducible refine gate_dst (N := 3) rfl ?_); refine Kd.R_lit (Kd.int .i64) _ 3 ?hg (N := 3) ?hd (xs := ([] : List Int)) (inner := []) (ok := fun _ => True) (okp := fun _ => True) ?hr ?hp (fun _ hk => hk) trivial (Below.refl _ _) (Nat.le_refl _) (by simp) ?_; (case hd => rfl); (case hg => rfl); (case hr => first | (go_simp; done) | (go_simp; rfl)); (case hp => exact (Reps.none _ _)); intro v288 w5 ho6 hb hg_ hnew_; clear hg_ hnew_; (first | rw [← Ny287.out] at ho6 | (simp only [Int.reduceToNat] at ho6; rw [← Ny287.out] at ho6)); have n0_ := xm (Kd.R_lower ho6 (xz (by repeat (first | (with_reducible first | exact HB.out | apply xa | apply xn | apply xd | refine xt ?_ GE285.out | refine xt ?_ GE286.out) | exact HB.out)))); have n1_ := xm (blk_below (g := gb285) (o := .cells #[.slice A0_0 l0_0.length c0_0] 26 (0, 0)) (by (with_reducible repeat (first | refine xq ?_ _ | refine xr ?_ | refine xo ?_ _)); exact BK285.out) hb); have n2_ := xm (blk_below (g := gb286) (o := .cells #[.slice none 0 0] 26 (0, 0)) (by (with_reducible repeat (first | refine xq ?_ _ | refine xr ?_ | refine xo ?_ _)); exact BK286.out) hb); have n3_ := xm (below_step (by repeat (first | (with_reducible first | exact HB.out | apply xa | apply xn | apply xd | refine xt ?_ GE285.out | refine xt ?_ GE286.out) | exact HB.out)) hb); clear BK285; clear BK286; clear HB; have HO289 := n0_; have BK285 := n1_; have BK286 := n2_; have HB := n3_; clear n0_ n1_ n2_ n3_; clear hb ho6; have hnb7 := NB285_286.out; have hnc7 := NB286_285.out; have hcz8_0 : w5.cell? ⟨gb285, 0, none⟩ = some (.slice A0_0 l0_0.length c0_0) := (xc BK285.out 0).trans rfl; have hfz8_0 := xf BK285.out 0) | ((with_reducible refine gate_builtin (b := .append) (xs := #[.tmp 3, .tmp 5]) rfl ?_); at_builtin; refine Kd.R_append_rows (Kd.int .i64) (w0 := w) w.heap.size rfl (.tmp 3) (.tmp 5) 22 3 (.int .i64 0) 8 rfl Try.underlying22 info3 rfl (by decide) (by omega) v288 y287 l0_0 _ _ _ (fun _ => True) (fun _ => False) rfl rfl ?aO ?aR (fun _ _ h => h) (fun _ h => h.elim) ?aF ?aB ?aS ?aL ?_; (case aR => repeat (first | exact (Kd.C_below HR0_0.out HB.out) | (with_reducible refine Kd.C_alloc ?_ _) | (with_reducible refine Kd.C_drewN ?_ _) | (with_reducible refine Kd.C_drew ?_))); (case aB => exact (by repeat (first | (with_reducible first | exact HB.out | apply xa | apply xn | apply xd | refine xt ?_ GE285.out | refine xt ?_ GE286.out) | exact HB.out))); (case aF => exact (fun _ _ => trivial)); (case aO => exact (by (with_reducible repeat (first | apply Kd.R_alloc | apply Kd.R_drewN | apply Kd.R_drew)); exact HO289.out)); (case aS => exact (xz (by repeat (first | (with_reducible first | exact HB.out | apply xa | apply xn | apply xd | refine xt ?_ GE285.out | refine xt ?_ GE286.out) | exact HB.out)))); (case aL => have := LMc2.out; omega); intro v291 w9 ho hb hg hat; rw [← Ny290.out] at ho; have n0_ := xm (blk_grown (g := gb285) (o := .cells #[.slice A0_0 l0_0.length c0_0] 26 (0, 0)) (by (with_reducible repeat (first | refine xq ?_ _ | refine xr ?_ | refine xo ?_ _)); exact BK285.out) hg (Kd.R_ne HO289.out BK285.out (by decide))); have n1_ := xm (blk_grown (g := gb286) (o := .cells #[.slice none 0 0] 26 (0, 0)) (by (with_reducible repeat (first | refine xq ?_ _ | refine xr ?_ | refine xo ?_ _)); exact BK286.out) hg (Kd.R_ne HO289.out BK286.out (by decide))); have n2_ := xm (hb); have n3_ := xm (ho); clear BK285; clear BK286; clear HB; clear HO289; have BK285 := n0_; have BK286 := n1_; have HB := n2_; have HO292 := n3_; clear n0_ n1_ n2_ n3_; clear ho hb hg hat; obtain ⟨Ao10, co10, eo10⟩ := Kd.R_slice HO292.out; subst eo10; have hcz11_0 : w9.cell? ⟨gb286, 0, none⟩ = some (.slice none 0 0) := (xc BK286.out 0).trans rfl; have hfz11_0 := xf BK286.out 0))
  refine bodyPost_ret (results_cell_row rfl _ _ gb286 26 #[.slice Ao10 y290.length co10] (0, 0) _ rfl (by (with_reducible repeat (first | refine xq ?_ _ | refine xr ?_ | refine xo ?_ _)); refine blk_put (cs := #[.slice none 0 0]) ?_ 0 _ rfl; (with_reducible repeat (first | refine xq ?_ _ | refine xr ?_ | refine xo ?_ _)); exact BK286.out) Try.underlying26 rfl (by kernel_rfl)) rfl ?_
  exact ⟨_, by first | rfl | (simp [errW_none, errW_some] <;> rfl) | (simp [*, errW_none, errW_some] <;> rfl), by (with_reducible repeat (first | apply Kd.R_alloc | apply Kd.R_drewN | apply Kd.R_drew)); exact Kd.R_mono (Kd.R_far (p := ⟨gb286, 0, none⟩) (Kd.R_types HO292.out BK286.out (by decide)) (fun _ hk => hk.2) (.slice Ao10 y290.length co10)) (fun _ hk => trivial), by repeat (first | (with_reducible first | exact HB.out | apply xa | apply xn | apply xd | refine xt ?_ GE285.out | refine xt ?_ GE286.out) | exact HB.out)⟩
 ·rw [if_neg c2] at H
  exact absurd H (by simp)

/-! ### spec_l2Tell: function 90 -/
def spec_l2Tell.l0 : Nat → List (S126) → Int → Int → Int → List (S126) → Option (Int × (List (S126)) × Bool)
 | 0, _, _, _, _, _ => none
 | k + 1, x11, x12, x13, x295000, x295001 => if x13 < x12 then (if 0 ≤ x13 then (if x13 < (x11.length : Int) then ((spec_l2OwnRow.f ((rd_T126 x11 x13).f0.f0)).bind fun t297 => (if x295001.length < 4398046511104 then (spec_l2Tell.l0 k x11 x12 (wrap64 (x13 + 1)) x295000 (x295001 ++ [(⟨(⟨t297⟩ : S26), (rd_T126 x11 x13).f1⟩ : S126)])) else (none))) else (none)) else (none)) else ((spec_GoodTable.f k x295000 x295001).bind fun t303 => (if t303 = true then (some (x295000, x295001, true)) else (some (0, ([] : List (S126)), false))))
def spec_l2Tell.f (k : Nat) (a0 : Int) (l1 : List (S126)) : Option (Int × (List (S126)) × Bool) := spec_l2Tell.l0 k l1 (l1.length : Int) 0 a0 ([] : List (S126))
theorem spec_l2Tell.mono_l : ∀ k, (∀ y0 y1 y2 y3 y4, LeO (spec_l2Tell.l0 k y0 y1 y2 y3 y4) (spec_l2Tell.l0 (k + 1) y0 y1 y2 y3 y4))
 | 0 => fun _ _ _ _ _ r h => by simp [spec_l2Tell.l0] at h
 | k + 1 => by
  have ih0 := spec_l2Tell.mono_l k
  ·intro y0 y1 y2 y3 y4
   unfold spec_l2Tell.l0
   repeat' first
   | (with_reducible exact ih0 _ _ _ _ _)
   | (with_reducible exact spec_GoodTable.mono _ _ _)
   | (with_reducible exact LeO.refl _)
   | (with_reducible exact LeO.none _)
   | (with_reducible refine LeO.ite ?_ ?_)
   | (with_reducible refine LeO.bind ?_ (fun _ => ?_))
   | exact ih0 _ _ _ _ _
   | exact spec_GoodTable.mono _ _ _
   | exact LeO.none _
   | refine LeO.ite ?_ ?_
   | refine LeO.bind ?_ (fun _ => ?_)
theorem spec_l2Tell.mono : ∀ a0 a1 k, LeO (spec_l2Tell.f k a0 a1) (spec_l2Tell.f (k + 1) a0 a1) := by
 intro a0 a1 k
 have ih0 := spec_l2Tell.mono_l k
 unfold spec_l2Tell.f
 repeat' first
   | (with_reducible exact ih0 _ _ _ _ _)
   | (with_reducible exact spec_GoodTable.mono _ _ _)
   | (with_reducible exact LeO.refl _)
   | (with_reducible exact LeO.none _)
   | (with_reducible refine LeO.ite ?_ ?_)
   | (with_reducible refine LeO.bind ?_ (fun _ => ?_))
   | exact ih0 _ _ _ _ _
   | exact spec_GoodTable.mono _ _ _
   | exact LeO.none _
   | refine LeO.ite ?_ ?_
   | refine LeO.bind ?_ (fun _ => ?_)
def spec_l2Tell.T5 : Bool × List (List Nat × List Nat) := (true, [([], []), ([0], [0]), ([], []), ([2], [2]), ([3], [3]), ([], []), ([5], [5]), ([4, 6], [4, 6]), ([7], [7]), ([1, 8, 4], [1, 8]), ([0, 1, 2, 3, 4, 5, 6, 7, 8, 9], []), ([10, 9, 9, 0, 1, 2, 3, 4, 5, 6, 7, 8, 9], [9, 10])])
def spec_l2Tell.B5 : List Nat := [0, 1, 0, 4, 12, 0, 32, 124, 252, 511, 1023, 2047]
theorem spec_l2Tell.tab5 : rtab .any (opsOf Try.f90 5) = spec_l2Tell.T5 := by kernel_rfl
theorem spec_l2Tell.bits5 : waitsOk spec_l2Tell.T5.2 spec_l2Tell.B5 = true := by kernel_rfl
set_option maxHeartbeats 8000000 in
set_option maxRecDepth 100000 in
theorem spec_l2Tell.calls (k : Nat) (a0 : Int) (A1 : Option Addr) (c1 : Nat) (l1 : List (S126)) (r1 : Int) (r2 : List (S126)) (r3 : Bool) (w : World) (hr1 : Kd.C k126 w A1 l1.length l1) (hc1 : l1.length ≤ c1) (h : spec_l2Tell.f k a0 l1 = some (r1, r2, r3)) :
  Calls Try.prog 90 #[.int .i64 a0, .slice A1 l1.length c1] w fun e w' => ∃ v1_ : Value, e = .returned (.tuple #[.agg #[.int .i64 r1, v1_], .bool r3]) ∧ Kd.S k126 126 w' w.heap.size (fun _ => True) v1_ r2 ∧ Below w.heap.size w w' := by
 have hu41 := Try.underlying41
 have hu126 := Try.underlying126
 have hu26 := Try.underlying26
 have HR1 := xm hr1
 have HC1 := xm hc1
 clear hr1 hc1
 have HB := xm (Below.refl w.heap.size w)
 have H : (spec_l2Tell.l0 k l1 (l1.length : Int) 0 a0 ([] : List (S126))) = some (r1, r2, r3) := h
 clear h
 have H' := xm H
 clear H
 go_enter Try.func90, Try.ntmps90
 go_wp2_with (first | ((with_reducible refine gate_dst (N := 4) rfl ?_); refine box_event ?hg (N := 4) ?hd (cs := #[.int .i64 0, .slice none 0 0]) (t := 41) ?hr ?_; (case hd => rfl); (case hg => rfl); (case hr => first | (go_simp; done) | (go_simp; rfl)); intro gb293 hg w3 hbox hb; have n0_ := xm (below_step (by repeat (first | (with_reducible first | exact HB.out | apply xa | apply xn | apply xd) | exact HB.out)) hb); have n1_ := xm (hbox); have n2_ := xm ((by rw [hg]; exact (xz (by repeat (first | (with_reducible first | exact HB.out | apply xa | apply xn | apply xd) | exact HB.out))) : w.heap.size ≤ gb293)); have n3_ := xm ((by rw [hg]; exact (xz (by repeat (first | (with_reducible first | exact HB.out | apply xa | apply xn | apply xd) | exact HB.out))) : w.heap.size ≤ gb293)); clear HB; have HB := n0_; have BK293 := n1_; have GW293 := n2_; have GE293 := n3_; clear n0_ n1_ n2_ n3_; clear hb hbox hg) | ((with_reducible refine gate_dst (N := 6) rfl ?_); refine box_event ?hg (N := 6) ?hd (cs := #[.int .i64 0, .slice none 0 0]) (t := 41) ?hr ?_; (case hd => rfl); (case hg => rfl); (case hr => first | (go_simp; done) | (go_simp; rfl)); intro gb294 hg w4 hbox hb; have n0_ := xm (blk_below (g := gb293) (o := .cells #[.int .i64 0, .slice none 0 0] 41 (0, 0)) (by (with_reducible repeat (first | refine xq ?_ _ | refine xr ?_ | refine xo ?_ _)); exact BK293.out) hb); have n1_ := xm (below_step (by repeat (first | (with_reducible first | exact HB.out | apply xa | apply xn | apply xd | refine xt ?_ GE293.out) | exact HB.out)) hb); have n2_ := xm (hbox); have n3_ := xm ((by rw [hg]; exact (xz (by repeat (first | (with_reducible first | exact HB.out | apply xa | apply xn | apply xd | refine xt ?_ GE293.out) | exact HB.out))) : w.heap.size ≤ gb294)); have n4_ := xm ((by rw [hg]; exact (xz (by repeat (first | (with_reducible first | exact HB.out | apply xa | apply xn | apply xd | refine xt ?_ GE293.out) | exact HB.out))) : w.heap.size ≤ gb294)); have n5_ := xm ((by rw [hg]; exact Nat.ne_of_lt (blk_lt (g := gb293) (o := .cells #[.int .i64 0, .slice none 0 0] 41 (0, 0)) (by (with_reducible repeat (first | refine xq ?_ _ | refine xr ?_ | refine xo ?_ _)); exact BK293.out)) : gb293 ≠ gb294)); have n6_ := xm ((by rw [hg]; exact Nat.ne_of_gt (blk_lt (g := gb293) (o := .cells #[.int .i64 0, .slice none 0 0] 41 (0, 0)) (by (with_reducible repeat (first | refine xq ?_ _ | refine xr ?_ | refine xo ?_ _)); exact BK293.out)) : gb294 ≠ gb293)); clear BK293; clear HB; have BK293 := n0_; have HB := n1_; have BK294 := n2_; have GW294 := n3_; have GE294 := n4_; have NB293_294 := n5_; have NB294_293 := n6_; clear n0_ n1_ n2_ n3_ n4_ n5_ n6_; clear hb hbox hg; have hnb5 := NB294_293.out; have hnc5 := NB293_294.out; have hcz6_0 : w4.cell? ⟨gb294, 0, none⟩ = some (.int .i64 0) := (xc BK294.out 0).trans rfl; have hcz6_1 : w4.cell? ⟨gb294, 1, none⟩ = some (.slice none 0 0) := (xc BK294.out 1).trans rfl; have hfz6_0 := xf BK294.out 0; have hfz6_1 := xf BK294.out 1))
 go_loopg [13] k (fun kq v13 w' => ∃ (x13_1 : Int) (x295001_1 : List (S126)) (u295001 : Value), v13 = .int .i64 x13_1 ∧ Aside0 (spec_l2Tell.l0 kq l1 (l1.length : Int) x13_1 a0 x295001_1 = some (r1, r2, r3)) ∧ Aside0 (kq ≤ k) ∧ Aside0 (Kd.S k126 126 w' w.heap.size (fun _ => True) u295001 x295001_1) ∧ Aside0 (w'.heap[gb293]? = some (.cells #[.int .i64 0, (.slice none 0 0)] 41 (0, 0))) ∧ Aside0 (w'.heap[gb294]? = some (.cells #[.int .i64 a0, u295001] 41 (0, 0))) ∧ Aside0 (Below w.heap.size w w'))
 case atStart => exact ⟨(0), (([] : List (S126))), (.slice none 0 0), (by first | rfl | (simp; done) | (simp [*]; done)), H', ⟨Nat.le_refl _⟩, ⟨by first | exact Kd.S_nil _ _ _ _ _ | exact Kd.N_nil _ _ _ _ _ | exact Kd.V_nil _ _ _ _ _ | exact Kd.Q_nil _ _ _ _ _ | exact Kd.R_nil _ _ _ _ _⟩, ⟨by (with_reducible repeat (first | refine xq ?_ _ | refine xr ?_ | refine xo ?_ _)); refine blk_far ?_ NB293_294.out _; (with_reducible repeat (first | refine xq ?_ _ | refine xr ?_ | refine xo ?_ _)); refine blk_far ?_ NB293_294.out _; (with_reducible repeat (first | refine xq ?_ _ | refine xr ?_ | refine xo ?_ _)); exact BK293.out⟩, ⟨by (with_reducible repeat (first | refine xq ?_ _ | refine xr ?_ | refine xo ?_ _)); refine blk_put (cs := #[.int .i64 a0, .slice none 0 0]) ?_ 1 _ rfl; (with_reducible repeat (first | refine xq ?_ _ | refine xr ?_ | refine xo ?_ _)); refine blk_put (cs := #[.int .i64 0, .slice none 0 0]) ?_ 0 _ rfl; (with_reducible repeat (first | refine xq ?_ _ | refine xr ?_ | refine xo ?_ _)); exact BK294.out⟩, ⟨by repeat (first | (with_reducible first | exact HB.out | apply xa | apply xn | apply xd | refine xt ?_ GE293.out | refine xt ?_ GE294.out) | exact HB.out)⟩⟩
 case round =>
  clear H'
  try clear c1
  try clear p2
  try clear c5
  try clear hcz6_0
  try clear hcz6_1
  try clear hfz6_0
  try clear hfz6_1
  obtain ⟨x13_1, x295001_1, u295001, rfl, HA, HK1, HO_295001, BK293, BK294, HB⟩ := hrel
  cases gk with
  | zero => exact absurd HA.out (by simp [spec_l2Tell.l0])
  | succ k1 =>
   have H := HA.out
   clear HA
   simp only [spec_l2Tell.l0] at H
   by_cases c7 : x13_1 < (l1.length : Int)
   ·rw [if_pos c7] at H
    have c7b0 : decide (x13_1 < (l1.length : Int)) = true := decide_eq_true c7
    clear c7
    by_cases c8 : 0 ≤ x13_1
    ·rw [if_pos c8] at H
     have c8b0 : decide (0 ≤ x13_1) = true := decide_eq_true c8
     clear c8
     by_cases c9 : x13_1 < (l1.length : Int)
     ·rw [if_pos c9] at H
      have c9b0 : decide (x13_1 < (l1.length : Int)) = true := decide_eq_true c9
      clear c9
      replace H := Option.bind_eq_some_iff.mp H
      obtain ⟨t297, A100, H⟩ := H
      replace H : (if x295001_1.length < 4398046511104 then (spec_l2Tell.l0 k1 l1 (l1.length : Int) (wrap64 (x13_1 + 1)) a0 (x295001_1 ++ [(⟨(⟨t297⟩ : S26), (rd_T126 l1 x13_1).f1⟩ : S126)])) else (none)) = some (r1, r2, r3) := H
      have A10 := xm A100
      clear A100
      by_cases c11 : x295001_1.length < 4398046511104
      ·rw [if_pos c11] at H
       have LMc11 := xm c11
       clear c11
       obtain ⟨y300, hy300⟩ : ∃ y_ : List (S126), y_ = (x295001_1 ++ [(⟨(⟨t297⟩ : S26), (rd_T126 l1 x13_1).f1⟩ : S126)]) := ⟨_, rfl⟩
       replace H : (spec_l2Tell.l0 k1 l1 (l1.length : Int) (wrap64 (x13_1 + 1)) a0 y300) = some (r1, r2, r3) := by first | (rw [hy300]; with_reducible exact H) | (have H2_ := (Option.bind_some _ _).symm.trans H; rw [hy300]; with_reducible exact H2_) | (have H2_ := (Option.bind_some _ _).symm.trans H; with_reducible exact H2_) | with_reducible exact H | (rw [hy300]; exact H) | exact H
       have Ny300 := xm hy300
       clear hy300
       have H' := xm H
       clear H
       have p295 : 0 ≤ (x13_1 : Int) := of_decide_eq_true (by first | (with_reducible assumption) | assumption)
       have q295 : x13_1 < (l1.length : Int) := of_decide_eq_true (by first | (with_reducible assumption) | assumption)
       obtain ⟨ad295, A295_0, c295_0, e295, hx295_0, hx295_1, hl295_0, hi295_0⟩ := at_T126 HR1.out x13_1 p295 q295
       cases e295
       replace hx295_0 := (HB.out.cell (World.block_lt_of_cell? w _ hx295_0)).trans hx295_0
       replace hx295_1 := (HB.out.cell (World.block_lt_of_cell? w _ hx295_1)).trans hx295_1
       have HR295_0 := xm hi295_0
       have HC295_0 := xm hl295_0
       clear hi295_0 hl295_0
       replace p295 := eq_true p295
       replace q295 := eq_true q295
       try go_wp2_with (first | ((with_reducible refine gate_dst (N := 8) rfl ?_); refine box_event ?hg (N := 8) ?hd (cs := #[.slice none 0 0, .int .i64 0]) (t := 126) ?hr ?_; (case hd => rfl); (case hg => rfl); (case hr => first | (go_simp; done) | (go_simp; rfl)); intro gb296 hg w12 hbox hb; have n0_ := xm (Kd.S_below (Kd.S_elderB (by (with_reducible repeat (first | apply Kd.S_alloc | apply Kd.S_drewN | apply Kd.S_drew)); exact HO_295001.out) gb296 (Nat.le_of_eq hg.symm)) hb); have n1_ := xm (blk_below (g := gb293) (o := .cells #[.int .i64 0, .slice none 0 0] 41 (0, 0)) (by (with_reducible repeat (first | refine xq ?_ _ | refine xr ?_ | refine xo ?_ _)); exact BK293.out) hb); have n2_ := xm (blk_below (g := gb294) (o := .cells #[.int .i64 a0, u295001] 41 (0, 0)) (by (with_reducible repeat (first | refine xq ?_ _ | refine xr ?_ | refine xo ?_ _)); exact BK294.out) hb); have n3_ := xm (below_step (by repeat (first | (with_reducible first | exact HB.out | apply xa | apply xn | apply xd | refine xt ?_ GE293.out | refine xt ?_ GE294.out) | exact HB.out)) hb); have n4_ := xm (hbox); have n5_ := xm ((by rw [hg]; exact (xz (by repeat (first | (with_reducible first | exact HB.out | apply xa | apply xn | apply xd | refine xt ?_ GE293.out | refine xt ?_ GE294.out) | exact HB.out))) : w.heap.size ≤ gb296)); have n6_ := xm ((by rw [hg]; exact (xz (by repeat (first | (with_reducible first | exact HB.out | apply xa | apply xn | apply xd | refine xt ?_ GE293.out | refine xt ?_ GE294.out) | exact HB.out))) : w.heap.size ≤ gb296)); have n7_ := xm ((by rw [hg]; exact Nat.ne_of_lt (blk_lt (g := gb293) (o := .cells #[.int .i64 0, .slice none 0 0] 41 (0, 0)) (by (with_reducible repeat (first | refine xq ?_ _ | refine xr ?_ | refine xo ?_ _)); exact BK293.out)) : gb293 ≠ gb296)); have n8_ := xm ((by rw [hg]; exact Nat.ne_of_gt (blk_lt (g := gb293) (o := .cells #[.int .i64 0, .slice none 0 0] 41 (0, 0)) (by (with_reducible repeat (first | refine xq ?_ _ | refine xr ?_ | refine xo ?_ _)); exact BK293.out)) : gb296 ≠ gb293)); have n9_ := xm ((by rw [hg]; exact Nat.ne_of_lt (blk_lt (g := gb294) (o := .cells #[.int .i64 a0, u295001] 41 (0, 0)) (by (with_reducible repeat (first | refine xq ?_ _ | refine xr ?_ | refine xo ?_ _)); exact BK294.out)) : gb294 ≠ gb296)); have n10_ := xm ((by rw [hg]; exact Nat.ne_of_gt (blk_lt (g := gb294) (o := .cells #[.int .i64 a0, u295001] 41 (0, 0)) (by (with_reducible repeat (first | refine xq ?_ _ | refine xr ?_ | refine xo ?_ _)); exact BK294.out)) : gb296 ≠ gb294)); clear HO_295001; clear BK293; clear BK294; clear HB; have HO_295001 := n0_; have BK293 := n1_; have BK294 := n2_; have HB := n3_; have BK296 := n4_; have GW296 := n5_; have GE296 := n6_; have NB293_296 := n7_; have NB296_293 := n8_; have NB294_296 := n9_; have NB296_294 := n10_; clear n0_ n1_ n2_ n3_ n4_ n5_ n6_ n7_ n8_ n9_ n10_; clear hb hbox hg; have hnb13 := NB296_293.out; have hnc13 := NB293_296.out; have hnb14 := NB296_294.out; have hnc14 := NB294_296.out; have hcz15_0 : w12.cell? ⟨gb296, 0, none⟩ = some (.slice none 0 0) := (xc BK296.out 0).trans rfl; have hcz15_1 : w12.cell? ⟨gb296, 1, none⟩ = some (.int .i64 0) := (xc BK296.out 1).trans rfl; have hfz15_0 := xf BK296.out 0; have hfz15_1 := xf BK296.out 1))
       have n0_ : Aside0 (Kd.S k126 126 ((w12.setCell ⟨gb296, 0, none⟩ (.slice A295_0 ((rd_T126 l1 x13_1).f0.f0).length c295_0)).setCell ⟨gb296, 1, none⟩ (.int .i64 ((rd_T126 l1 x13_1).f1))) w.heap.size (fun k_ => k_ ≠ gb296) u295001 x295001_1) := ⟨by (with_reducible repeat (first | apply Kd.S_alloc | apply Kd.S_drewN | apply Kd.S_drew)); exact Kd.S_mono (Kd.S_far (p := ⟨gb296, 1, none⟩) (Kd.S_far (p := ⟨gb296, 0, none⟩) (Kd.S_mono HO_295001.out (fun k_ hk => (⟨hk, hk.2⟩ : _ ∧ k_ ≠ gb296))) (fun _ hk => hk.2) (.slice A295_0 ((rd_T126 l1 x13_1).f0.f0).length c295_0)) (fun _ hk => hk.2) (.int .i64 ((rd_T126 l1 x13_1).f1))) (fun _ hk => hk.1.2)⟩
       have n1_ : Aside0 (((w12.setCell ⟨gb296, 0, none⟩ (.slice A295_0 ((rd_T126 l1 x13_1).f0.f0).length c295_0)).setCell ⟨gb296, 1, none⟩ (.int .i64 ((rd_T126 l1 x13_1).f1))).heap[gb293]? = some (.cells #[.int .i64 0, .slice none 0 0] 41 (0, 0))) := ⟨by (with_reducible repeat (first | refine xq ?_ _ | refine xr ?_ | refine xo ?_ _)); refine blk_far ?_ NB293_296.out _; (with_reducible repeat (first | refine xq ?_ _ | refine xr ?_ | refine xo ?_ _)); refine blk_far ?_ NB293_296.out _; (with_reducible repeat (first | refine xq ?_ _ | refine xr ?_ | refine xo ?_ _)); exact BK293.out⟩
       have n2_ : Aside0 (((w12.setCell ⟨gb296, 0, none⟩ (.slice A295_0 ((rd_T126 l1 x13_1).f0.f0).length c295_0)).setCell ⟨gb296, 1, none⟩ (.int .i64 ((rd_T126 l1 x13_1).f1))).heap[gb294]? = some (.cells #[.int .i64 a0, u295001] 41 (0, 0))) := ⟨by (with_reducible repeat (first | refine xq ?_ _ | refine xr ?_ | refine xo ?_ _)); refine blk_far ?_ NB294_296.out _; (with_reducible repeat (first | refine xq ?_ _ | refine xr ?_ | refine xo ?_ _)); refine blk_far ?_ NB294_296.out _; (with_reducible repeat (first | refine xq ?_ _ | refine xr ?_ | refine xo ?_ _)); exact BK294.out⟩
       have n3_ : Aside0 (((w12.setCell ⟨gb296, 0, none⟩ (.slice A295_0 ((rd_T126 l1 x13_1).f0.f0).length c295_0)).setCell ⟨gb296, 1, none⟩ (.int .i64 ((rd_T126 l1 x13_1).f1))).heap[gb296]? = some (.cells #[.slice A295_0 ((rd_T126 l1 x13_1).f0.f0).length c295_0, .int .i64 ((rd_T126 l1 x13_1).f1)] 126 (0, 0))) := ⟨by (with_reducible repeat (first | refine xq ?_ _ | refine xr ?_ | refine xo ?_ _)); refine blk_put (cs := #[.slice A295_0 ((rd_T126 l1 x13_1).f0.f0).length c295_0, .int .i64 0]) ?_ 1 _ rfl; (with_reducible repeat (first | refine xq ?_ _ | refine xr ?_ | refine xo ?_ _)); refine blk_put (cs := #[.slice none 0 0, .int .i64 0]) ?_ 0 _ rfl; (with_reducible repeat (first | refine xq ?_ _ | refine xr ?_ | refine xo ?_ _)); exact BK296.out⟩
       have n4_ : Aside0 (Below w.heap.size w ((w12.setCell ⟨gb296, 0, none⟩ (.slice A295_0 ((rd_T126 l1 x13_1).f0.f0).length c295_0)).setCell ⟨gb296, 1, none⟩ (.int .i64 ((rd_T126 l1 x13_1).f1)))) := ⟨by repeat (first | (with_reducible first | exact HB.out | apply xa | apply xn | apply xd | refine xt ?_ GE293.out | refine xt ?_ GE294.out | refine xt ?_ GE296.out) | exact HB.out)⟩
       (try clear HO_295001)
       (try clear BK293)
       (try clear BK294)
       (try clear BK296)
       (try clear HB)
       generalize ((w12.setCell ⟨gb296, 0, none⟩ (.slice A295_0 ((rd_T126 l1 x13_1).f0.f0).length c295_0)).setCell ⟨gb296, 1, none⟩ (.int .i64 ((rd_T126 l1 x13_1).f1))) = w16 at n0_ n1_ n2_ n3_ n4_ ⊢
       have HO_295001 := n0_
       have BK293 := n1_
       have BK294 := n2_
       have BK296 := n3_
       have HB := n4_
       clear n0_ n1_ n2_ n3_ n4_
       have n0_ := xm (Kd.S_drew HO_295001.out)
       have n1_ := xm (xr BK293.out)
       have n2_ := xm (xr BK294.out)
       have n3_ := xm (xr BK296.out)
       have n4_ := xm (xd HB.out)
       clear HO_295001
       clear BK293
       clear BK294
       clear BK296
       clear HB
       have HO_295001 := n0_
       have BK293 := n1_
       have BK294 := n2_
       have BK296 := n3_
       have HB := n4_
       clear n0_ n1_ n2_ n3_ n4_
       refine start_ (n := 12) (S := fun w' => w'.cell? ⟨gb294, 0, none⟩ = some (.int .i64 a0) ∧ w'.cell? ⟨gb294, 1, none⟩ = some (u295001) ∧ w'.cell? ⟨gb296, 0, none⟩ = some (.slice A295_0 ((rd_T126 l1 x13_1).f0.f0).length c295_0) ∧ w'.cell? ⟨gb296, 1, none⟩ = some (.int .i64 ((rd_T126 l1 x13_1).f1))) (ds := [11]) #[Z,Z,Z,Z,Z,Z,Z,Z,Z,Z,Z,Z] (by kernel_rfl) rfl rfl ⟨(xc BK294.out 0).trans rfl, (xc BK294.out 1).trans rfl, (xc BK296.out 0).trans rfl, (xc BK296.out 1).trans rfl⟩ (fun hHeld => ?_); refine with_tabW spec_l2Tell.tab5 spec_l2Tell.bits5 (fun HT_ HW_ => ?_)
       generalize w16.drew = w17 at HO_295001 BK293 BK294 BK296 HB hHeld ⊢
       refine pure_ (i := 0) (N := some 17) (v := ?_) (a' := ?_) #[Y,Z,Z,Z,Z,Z,Z,Z,Z,Z,Z,Z] rfl rfl (any_of HT_.out (by kernel_rfl)) (fun _ _ _ h => h) (Or.inl ⟨by rfl, ?_⟩) ?_ ?_
       rotate_left
       ·intro w'
        go_simp
        with_reducible rfl
       rotate_left
       ·simp only [Act.put, xi, xj, xk, i64_w, i32_w]
        rfl
       refine pure_ (i := 2) (N := some 19) (v := ?_) (a' := ?_) #[Y,Z,Y,Z,Z,Z,Z,Z,Z,Z,Z,Z] rfl rfl (any_of HT_.out (by kernel_rfl)) (fun _ _ _ h => h) (Or.inl ⟨by rfl, ?_⟩) ?_ ?_
       rotate_left
       ·intro w'
        go_simp
        with_reducible rfl
       rotate_left
       ·simp only [Act.put, xi, xj, xk, i64_w, i32_w]
        rfl
       refine pure_ (i := 5) (N := some 22) (v := ?_) (a' := ?_) #[Y,Z,Y,Z,Z,Y,Z,Z,Z,Z,Z,Z] rfl rfl (any_of HT_.out (by kernel_rfl)) (fun _ _ _ h => h) (Or.inl ⟨by rfl, ?_⟩) ?_ ?_
       rotate_left
       ·intro w'
        go_simp
        with_reducible rfl
       rotate_left
       ·simp only [Act.put, xi, xj, xk, i64_w, i32_w]
        rfl
       refine take_ (i := 1) (N := some 18) (v := ?_) (a' := ?_) #[Y,Y,Y,Z,Z,Y,Z,Z,Z,Z,Z,Z] rfl rfl (take_ofW HT_.out HW_.out (by kernel_rfl)) (fun _ _ _ h => h) (Or.inl ⟨by rfl, ?_⟩) hHeld ?_ ?_
       rotate_left
       ·rintro w' ⟨s0, s1, s2, s3⟩
        go_simp
        with_reducible rfl
       rotate_left
       ·simp only [Act.put, xi, xj, xk, i64_w, i32_w]
        rfl
       refine take_ (i := 3) (N := some 20) (v := ?_) (a' := ?_) #[Y,Y,Y,Y,Z,Y,Z,Z,Z,Z,Z,Z] rfl rfl (take_ofW HT_.out HW_.out (by kernel_rfl)) (fun _ _ _ h => h) (Or.inl ⟨by rfl, ?_⟩) hHeld ?_ ?_
       rotate_left
       ·rintro w' ⟨s0, s1, s2, s3⟩
        go_simp
        with_reducible rfl
       rotate_left
       ·simp only [Act.put, xi, xj, xk, i64_w, i32_w]
        rfl
       refine take_ (i := 6) (N := some 23) (v := ?_) (a' := ?_) #[Y,Y,Y,Y,Z,Y,Y,Z,Z,Z,Z,Z] rfl rfl (take_ofW HT_.out HW_.out (by kernel_rfl)) (fun _ _ _ h => h) (Or.inl ⟨by rfl, ?_⟩) hHeld ?_ ?_
       rotate_left
       ·rintro w' ⟨s0, s1, s2, s3⟩
        go_simp
        with_reducible rfl
       rotate_left
       ·simp only [Act.put, xi, xj, xk, i64_w, i32_w]
        rfl
       refine one_ (i := 4) (N := some 21) #[Y,Y,Y,Y,Y,Y,Y,Z,Z,Z,Z,Z] rfl rfl (one_of HT_.out (by kernel_rfl)) (by decide) (fun K hK => ?_)
       refine goes_ Try.func139 (by kernel_rfl) rfl #[.agg #[.slice A295_0 ((rd_T126 l1 x13_1).f0.f0).length c295_0]] (by rfl) rfl rfl (by (try simp only [List.map_toArray, List.map_cons, List.map_nil]); first | done | rfl | (simp only [List.length_drop, List.length_take]; rfl)) ?_
       with_reducible refine (spec_l2OwnRow.calls _ _ ((rd_T126 l1 x13_1).f0.f0) t297 _ ?side1 ?side2 A10.out).mono ?_
       (case side1 => repeat (first | exact (Kd.C_below HR295_0.out HB.out) | (with_reducible refine Kd.C_alloc ?_ _) | (with_reducible refine Kd.C_drewN ?_ _) | (with_reducible refine Kd.C_drew ?_)))
       (case side2 => exact HC295_0.out)
       rintro e w18 ⟨v298, rfl, ho0, hb⟩
       refine ⟨_, rfl, ?_⟩
       have n0_ := xm (Kd.S_elder' (by (with_reducible repeat (first | apply Kd.S_alloc | apply Kd.S_drewN | apply Kd.S_drew)); exact HO_295001.out) (Kd.R_base ho0) hb)
       have n1_ := xm (Kd.R_lower ho0 (xz (by repeat (first | (with_reducible first | exact HB.out | apply xa | apply xn | apply xd | refine xt ?_ GE293.out | refine xt ?_ GE294.out | refine xt ?_ GE296.out) | exact HB.out))))
       have n2_ := xm (blk_below (g := gb293) (o := .cells #[.int .i64 0, .slice none 0 0] 41 (0, 0)) (by (with_reducible repeat (first | refine xq ?_ _ | refine xr ?_ | refine xo ?_ _)); exact BK293.out) hb)
       have n3_ := xm (blk_below (g := gb294) (o := .cells #[.int .i64 a0, u295001] 41 (0, 0)) (by (with_reducible repeat (first | refine xq ?_ _ | refine xr ?_ | refine xo ?_ _)); exact BK294.out) hb)
       have n4_ := xm (blk_below (g := gb296) (o := .cells #[.slice A295_0 ((rd_T126 l1 x13_1).f0.f0).length c295_0, .int .i64 ((rd_T126 l1 x13_1).f1)] 126 (0, 0)) (by (with_reducible repeat (first | refine xq ?_ _ | refine xr ?_ | refine xo ?_ _)); exact BK296.out) hb)
       have n5_ := xm (below_step (by repeat (first | (with_reducible first | exact HB.out | apply xa | apply xn | apply xd | refine xt ?_ GE293.out | refine xt ?_ GE294.out | refine xt ?_ GE296.out) | exact HB.out)) hb)
       clear HO_295001
       clear BK293
       clear BK294
       clear BK296
       clear HB
       have HO_295001 := n0_
       have HO299 := n1_
       have BK293 := n2_
       have BK294 := n3_
       have BK296 := n4_
       have HB := n5_
       clear n0_ n1_ n2_ n3_ n4_ n5_
       (try clear hb)
       (try clear hb2)
       (try clear hk)
       (try clear hi)
       (try clear ho0)
       obtain ⟨Ao19, co19, eo19⟩ := Kd.R_slice HO299.out
       (first | subst eo19 | (injection eo19 with f1_ f2_ f3_; have f4_ := f1_.symm; have f5_ := f3_.symm; clear f1_ f2_ f3_; subst f4_; subst f5_))
       refine hK.out _ _ ⟨(xc BK294.out 0).trans rfl, (xc BK294.out 1).trans rfl, (xc BK296.out 0).trans rfl, (xc BK296.out 1).trans rfl⟩ (fun hHeld => ?_)
       clear hK K
       refine norm_ (a' := ?_) ?_ ?_
       rotate_left
       ·show Act.put _ (some 21) _ = _
        simp only [Act.put, xi, xj, xk, i64_w, i32_w]
        rfl
       refine pure_ (i := 7) (N := some 24) (v := ?_) (a' := ?_) #[Y,Y,Y,Y,Y,Y,Y,Y,Z,Z,Z,Z] rfl rfl (any_of HT_.out (by kernel_rfl)) (fun _ _ _ h => h) (Or.inl ⟨by rfl, ?_⟩) ?_ ?_
       rotate_left
       ·intro w'
        go_simp
        with_reducible rfl
       rotate_left
       ·simp only [Act.put, xi, xj, xk, i64_w, i32_w]
        rfl
       refine one_ (i := 8) (N := some 25) #[Y,Y,Y,Y,Y,Y,Y,Y,Y,Z,Z,Z] rfl rfl (one_of HT_.out (by kernel_rfl)) (by decide) (fun K hK => ?_)
       refine value_ (w1 := ?_) (v := ?_) (by rfl) rfl ?_ ?_
       rotate_left 2
       ·go_simp
        constructor
        ·rfl
        ·rfl
       refine hK.out _ _ ⟨(xc (xo BK294.out _) 0).trans rfl, (xc (xo BK294.out _) 1).trans rfl, (xc (xo BK296.out _) 0).trans rfl, (xc (xo BK296.out _) 1).trans rfl⟩ (fun hHeld => ?_)
       clear hK K
       refine norm_ (a' := ?_) ?_ ?_
       rotate_left
       ·show Act.put _ (some 25) _ = _
        simp only [Act.put, xi, xj, xk, i64_w, i32_w]
        rfl
       refine one_ (i := 9) (N := some 26) #[Y,Y,Y,Y,Y,Y,Y,Y,Y,Y,Z,Z] rfl rfl (one_of HT_.out (by kernel_rfl)) (by decide) (fun K hK => ?_)
       refine Kd.S_append_step k126 (w0 := w) w.heap.size (by rfl) (.tmp 18) (.tmp 25) 39 126 (.agg #[(.slice none 0 0), (.int .i64 0)]) 32 rfl Try.underlying39 info126 rfl (by decide) (by omega) u295001 x295001_1 (⟨(⟨t297⟩ : S26), (rd_T126 l1 x13_1).f1⟩ : S126) [.slice Ao19 t297.length co19, .int .i64 ((rd_T126 l1 x13_1).f1)] (fun k_ => k_ ≠ gb296) (fun k_ => some k_ = (.slice Ao19 t297.length co19 : Value).ownBlock) rfl rfl ?aP (fun k_ hk_ => ((Kd.R_mono (ok' := fun k_ => ((fun k_ => k_ ≠ gb296)) k_ ∧ some k_ ≠ (u295001 : Value).ownBlock) (Kd.R_types (Kd.R_apart' (HO299.out) (Kd.S_typed HO_295001.out) (by decide)) BK296.out (by decide)) (fun k_ hk => ⟨hk.2, hk.1.2⟩))).1 k_ hk_.symm) ?aF ?aO ?aB ?aS ?aL ?_
       (case aP => exact k126_mkM _ _ _ (⟨(⟨t297⟩ : S26), (rd_T126 l1 x13_1).f1⟩ : S126) (Kd.R_mono (Kd.R_tight rfl (Kd.R_mono (ok' := fun k_ => ((fun k_ => k_ ≠ gb296)) k_ ∧ some k_ ≠ (u295001 : Value).ownBlock) (Kd.R_types (Kd.R_apart' (HO299.out) (Kd.S_typed HO_295001.out) (by decide)) BK296.out (by decide)) (fun k_ hk => ⟨hk.2, hk.1.2⟩))) (fun _ h_ => h_)))
       (case aB => exact (by repeat (first | (with_reducible first | exact HB.out | apply xa | apply xn | apply xd | refine xt ?_ GE293.out | refine xt ?_ GE294.out | refine xt ?_ GE296.out) | exact HB.out)))
       (case aF => exact (fun k_ hk => Kd.freshB (g := gb296) (o := .cells #[.slice A295_0 ((rd_T126 l1 x13_1).f0.f0).length c295_0, .int .i64 ((rd_T126 l1 x13_1).f1)] 126 (0, 0)) (by (with_reducible repeat (first | refine xq ?_ _ | refine xr ?_ | refine xo ?_ _)); exact BK296.out) k_ hk))
       (case aO => exact (by (with_reducible repeat (first | apply Kd.S_alloc | apply Kd.S_drewN | apply Kd.S_drew)); exact Kd.S_mono HO_295001.out (fun k_ hk => ⟨hk.1, fun e_ => hk.2 e_⟩)))
       (case aS => exact (xz (by repeat (first | (with_reducible first | exact HB.out | apply xa | apply xn | apply xd | refine xt ?_ GE293.out | refine xt ?_ GE294.out | refine xt ?_ GE296.out) | exact HB.out))))
       (case aL => have := LMc11.out; omega)
       intro v301 w20 ho hb hg hat
       rw [← Ny300.out] at ho
       have n0_ := xm (blk_grown (g := gb293) (o := .cells #[.int .i64 0, .slice none 0 0] 41 (0, 0)) (by (with_reducible repeat (first | refine xq ?_ _ | refine xr ?_ | refine xo ?_ _)); exact BK293.out) hg (Kd.S_ne HO_295001.out BK293.out (by decide)))
       have n1_ := xm (blk_grown (g := gb294) (o := .cells #[.int .i64 a0, u295001] 41 (0, 0)) (by (with_reducible repeat (first | refine xq ?_ _ | refine xr ?_ | refine xo ?_ _)); exact BK294.out) hg (Kd.S_ne HO_295001.out BK294.out (by decide)))
       have n2_ := xm (blk_grown (g := gb296) (o := .cells #[.slice A295_0 ((rd_T126 l1 x13_1).f0.f0).length c295_0, .int .i64 ((rd_T126 l1 x13_1).f1)] 126 (0, 0)) (by (with_reducible repeat (first | refine xq ?_ _ | refine xr ?_ | refine xo ?_ _)); exact BK296.out) hg (Kd.S_away HO_295001.out (fun _ hk => hk.1)))
       have n3_ := xm (hb)
       have n4_ := xm (ho)
       clear BK293
       clear BK294
       clear BK296
       clear HB
       clear HO_295001
       clear HO299
       have BK293 := n0_
       have BK294 := n1_
       have BK296 := n2_
       have HB := n3_
       have HO302 := n4_
       clear n0_ n1_ n2_ n3_ n4_
       clear ho hb hg hat
       obtain ⟨Ao21, co21, eo21⟩ := Kd.S_slice HO302.out
       (first | subst eo21 | (injection eo21 with f1_ f2_ f3_; have f4_ := f1_.symm; have f5_ := f3_.symm; clear f1_ f2_ f3_; subst f4_; subst f5_))
       refine hK.out _ _ ⟨(xc BK294.out 0).trans rfl, (xc BK294.out 1).trans rfl, (xc BK296.out 0).trans rfl, (xc BK296.out 1).trans rfl⟩ (fun hHeld => ?_)
       clear hK K
       refine norm_ (a' := ?_) ?_ ?_
       rotate_left
       ·show Act.put _ (some 26) _ = _
        simp only [Act.put, xi, xj, xk, i64_w, i32_w]
        rfl
       refine pure_ (i := 10) (N := some 27) (v := ?_) (a' := ?_) #[Y,Y,Y,Y,Y,Y,Y,Y,Y,Y,Y,Z] rfl rfl (any_of HT_.out (by kernel_rfl)) (fun _ _ _ h => h) (Or.inl ⟨by rfl, ?_⟩) ?_ ?_
       rotate_left
       ·intro w'
        go_simp
        with_reducible rfl
       rotate_left
       ·simp only [Act.put, xi, xj, xk, i64_w, i32_w]
        rfl
       refine last_ (i := 11) (N := none) #[Y,Y,Y,Y,Y,Y,Y,Y,Y,Y,Y,Y] rfl rfl (one_of HT_.out (by kernel_rfl)) (by decide) (fun K hK => ?_)
       have hs22 : w20.cell? ⟨gb294, 1, none⟩ = some (u295001) := (xc BK294.out 1).trans rfl
       have hfs22 := xf BK294.out 1
       have hns22_0 := NB293_294.out
       have hns22_2 := NB296_294.out
       have hms22_0 := NB294_293.out
       have hms22_2 := NB294_296.out
       refine skip_ (w1 := ?_) (by rfl) rfl ?_ ?_
       rotate_left
       ·go_simp
        rfl
       refine hK.out _ _ ?_
       clear hK K
       refine done_ (done_of HT_.out (by kernel_rfl)) ?_
       try go_wp2
       go_roundg k1
       case measure => have := HK1.out; omega
       case rel => exact ⟨(wrap64 (x13_1 + 1)), (y300), (.slice Ao21 y300.length co21), (by first | rfl | (simp; done) | (simp [*]; done)), H', ⟨by have := HK1.out; omega⟩, ⟨by (with_reducible repeat (first | apply Kd.S_alloc | apply Kd.S_drewN | apply Kd.S_drew)); exact Kd.S_mono (Kd.S_far (p := ⟨gb294, 1, none⟩) (Kd.S_types HO302.out BK294.out (by decide)) (fun _ hk => hk.2) (.slice Ao21 y300.length co21)) (fun _ hk => trivial)⟩, ⟨by (with_reducible repeat (first | refine xq ?_ _ | refine xr ?_ | refine xo ?_ _)); refine blk_far ?_ NB293_294.out _; (with_reducible repeat (first | refine xq ?_ _ | refine xr ?_ | refine xo ?_ _)); exact BK293.out⟩, ⟨by (with_reducible repeat (first | refine xq ?_ _ | refine xr ?_ | refine xo ?_ _)); refine blk_put (cs := #[.int .i64 a0, u295001]) ?_ 1 _ rfl; (with_reducible repeat (first | refine xq ?_ _ | refine xr ?_ | refine xo ?_ _)); exact BK294.out⟩, ⟨by repeat (first | (with_reducible first | exact HB.out | apply xa | apply xn | apply xd | refine xt ?_ GE293.out | refine xt ?_ GE294.out | refine xt ?_ GE296.out) | exact HB.out)⟩⟩
      ·rw [if_neg c11] at H
       exact absurd H (by simp)
     ·rw [if_neg c9] at H
      exact absurd H (by simp)
    ·rw [if_neg c8] at H
     exact absurd H (by simp)
   ·rw [if_neg c7] at H
    have c7b0 : decide (x13_1 < (l1.length : Int)) = false := decide_eq_false c7
    clear c7
    replace H := Option.bind_eq_some_iff.mp H
    obtain ⟨t303, A230, H⟩ := H
    replace H : (if t303 = true then (some (a0, x295001_1, true)) else (some (0, ([] : List (S126)), false))) = some (r1, r2, r3) := H
    have A23 := xm A230
    clear A230
    by_cases c24 : t303 = true
    ·subst c24
     have H1 : (some (a0, x295001_1, true)) = some (r1, r2, r3) := by first | (with_reducible rfl) | (rw [if_pos rfl] at H; exact H)
     clear H
     have H := H1
     clear H1
     simp only [Option.some.injEq, Prod.mk.injEq] at H
     obtain ⟨rfl, rfl, rfl⟩ := H
     have hnb25 := NB294_293.out
     have hnc25 := NB293_294.out
     have hcz26_0 : wr.cell? ⟨gb294, 0, none⟩ = some (.int .i64 a0) := (xc BK294.out 0).trans rfl
     have hcz26_1 : wr.cell? ⟨gb294, 1, none⟩ = some (u295001) := (xc BK294.out 1).trans rfl
     have hfz26_0 := xf BK294.out 0
     have hfz26_1 := xf BK294.out 1
     obtain ⟨Ao27, co27, eo27⟩ := Kd.S_slice HO_295001.out
     subst eo27
     go_wp2_with (first | ((with_reducible refine gate_callee (f := 41) rfl ?_); refine goesL_ (some 30) rfl rfl Try.func41 (by kernel_rfl) rfl #[.agg #[.int .i64 a0, .slice Ao27 x295001_1.length co27]] rfl (by (try simp only [List.map_toArray, List.map_cons, List.map_nil]); first | done | rfl | (simp only [List.length_drop, List.length_take]; rfl)) ?_; (with_reducible refine (spec_GoodTable.calls k1 a0 _ _ x295001_1 true _ ?side1 ?side2 A23.out).mono ?_); (case side1 => repeat (first | exact (Kd.S_reads' HO_295001.out).2.2 | (with_reducible refine Kd.C_alloc ?_ _) | (with_reducible refine Kd.C_drewN ?_ _) | (with_reducible refine Kd.C_drew ?_))); (case side2 => exact (Kd.S_reads' HO_295001.out).2.1); rintro e w28 ⟨rfl, hb⟩; refine ⟨_, rfl, ?_⟩; have n0_ := xm (Kd.S_below (by (with_reducible repeat (first | apply Kd.S_alloc | apply Kd.S_drewN | apply Kd.S_drew)); exact HO_295001.out) hb); have n1_ := xm (blk_below (g := gb293) (o := .cells #[.int .i64 0, .slice none 0 0] 41 (0, 0)) (by (with_reducible repeat (first | refine xq ?_ _ | refine xr ?_ | refine xo ?_ _)); exact BK293.out) hb); have n2_ := xm (blk_below (g := gb294) (o := .cells #[.int .i64 a0, .slice Ao27 x295001_1.length co27] 41 (0, 0)) (by (with_reducible repeat (first | refine xq ?_ _ | refine xr ?_ | refine xo ?_ _)); exact BK294.out) hb); have n3_ := xm (below_step (by repeat (first | (with_reducible first | exact HB.out | apply xa | apply xn | apply xd | refine xt ?_ GE293.out | refine xt ?_ GE294.out) | exact HB.out)) hb); clear HO_295001; clear BK293; clear BK294; clear HB; have HO_295001 := n0_; have BK293 := n1_; have BK294 := n2_; have HB := n3_; clear n0_ n1_ n2_ n3_; (try clear hb); (try clear hb2); (try clear hk); (try clear hi); have hcz29_0 : w28.cell? ⟨gb294, 0, none⟩ = some (.int .i64 a0) := (xc BK294.out 0).trans rfl; have hcz29_1 : w28.cell? ⟨gb294, 1, none⟩ = some (.slice Ao27 x295001_1.length co27) := (xc BK294.out 1).trans rfl; have hfz29_0 := xf BK294.out 0; have hfz29_1 := xf BK294.out 1; have hcz30_0 : w28.cell? ⟨gb293, 0, none⟩ = some (.int .i64 0) := (xc BK293.out 0).trans rfl; have hcz30_1 : w28.cell? ⟨gb293, 1, none⟩ = some (.slice none 0 0) := (xc BK293.out 1).trans rfl; have hfz30_0 := xf BK293.out 0; have hfz30_1 := xf BK293.out 1))
     refine bodyPost_ret (results_ct rfl _ _ gb293 41 #[.int .i64 a0, .slice Ao27 x295001_1.length co27] (0, 0) _ rfl (by (with_reducible repeat (first | refine xq ?_ _ | refine xr ?_ | refine xo ?_ _)); refine blk_put (cs := #[.int .i64 a0, .slice none 0 0]) ?_ 1 _ rfl; (with_reducible repeat (first | refine xq ?_ _ | refine xr ?_ | refine xo ?_ _)); refine blk_put (cs := #[.int .i64 0, .slice none 0 0]) ?_ 0 _ rfl; (with_reducible repeat (first | refine xq ?_ _ | refine xr ?_ | refine xo ?_ _)); exact BK293.out) Try.underlying41 rfl (by kernel_rfl)) rfl ?_
     exact ⟨_, by first | rfl | (simp [errW_none, errW_some] <;> rfl) | (simp [*, errW_none, errW_some] <;> rfl), by (with_reducible repeat (first | apply Kd.S_alloc | apply Kd.S_drewN | apply Kd.S_drew)); exact Kd.S_mono (Kd.S_far (p := ⟨gb293, 1, none⟩) (Kd.S_far (p := ⟨gb293, 0, none⟩) (Kd.S_types HO_295001.out BK293.out (by decide)) (fun _ hk => hk.2) (.int .i64 a0)) (fun _ hk => hk.2) (.slice Ao27 x295001_1.length co27)) (fun _ hk => trivial), by repeat (first | (with_reducible first | exact HB.out | apply xa | apply xn | apply xd | refine xt ?_ GE293.out | refine xt ?_ GE294.out) | exact HB.out)⟩
    ·replace c24 := Bool.eq_false_iff.mpr c24
     subst c24
     have H1 : (some (0, ([] : List (S126)), false)) = some (r1, r2, r3) := by first | (with_reducible rfl) | (rw [if_neg (show ¬ (false = true) by decide)] at H; exact H)
     clear H
     have H := H1
     clear H1
     simp only [Option.some.injEq, Prod.mk.injEq] at H
     obtain ⟨rfl, rfl, rfl⟩ := H
     have hnb31 := NB294_293.out
     have hnc31 := NB293_294.out
     have hcz32_0 : wr.cell? ⟨gb294, 0, none⟩ = some (.int .i64 a0) := (xc BK294.out 0).trans rfl
     have hcz32_1 : wr.cell? ⟨gb294, 1, none⟩ = some (u295001) := (xc BK294.out 1).trans rfl
     have hfz32_0 := xf BK294.out 0
     have hfz32_1 := xf BK294.out 1
     obtain ⟨Ao33, co33, eo33⟩ := Kd.S_slice HO_295001.out
     subst eo33
     go_wp2_with (first | ((with_reducible refine gate_callee (f := 41) rfl ?_); refine goesL_ (some 30) rfl rfl Try.func41 (by kernel_rfl) rfl #[.agg #[.int .i64 a0, .slice Ao33 x295001_1.length co33]] rfl (by (try simp only [List.map_toArray, List.map_cons, List.map_nil]); first | done | rfl | (simp only [List.length_drop, List.length_take]; rfl)) ?_; (with_reducible refine (spec_GoodTable.calls k1 a0 _ _ x295001_1 false _ ?side1 ?side2 A23.out).mono ?_); (case side1 => repeat (first | exact (Kd.S_reads' HO_295001.out).2.2 | (with_reducible refine Kd.C_alloc ?_ _) | (with_reducible refine Kd.C_drewN ?_ _) | (with_reducible refine Kd.C_drew ?_))); (case side2 => exact (Kd.S_reads' HO_295001.out).2.1); rintro e w34 ⟨rfl, hb⟩; refine ⟨_, rfl, ?_⟩; have n0_ := xm (Kd.S_below (by (with_reducible repeat (first | apply Kd.S_alloc | apply Kd.S_drewN | apply Kd.S_drew)); exact HO_295001.out) hb); have n1_ := xm (blk_below (g := gb293) (o := .cells #[.int .i64 0, .slice none 0 0] 41 (0, 0)) (by (with_reducible repeat (first | refine xq ?_ _ | refine xr ?_ | refine xo ?_ _)); exact BK293.out) hb); have n2_ := xm (blk_below (g := gb294) (o := .cells #[.int .i64 a0, .slice Ao33 x295001_1.length co33] 41 (0, 0)) (by (with_reducible repeat (first | refine xq ?_ _ | refine xr ?_ | refine xo ?_ _)); exact BK294.out) hb); have n3_ := xm (below_step (by repeat (first | (with_reducible first | exact HB.out | apply xa | apply xn | apply xd | refine xt ?_ GE293.out | refine xt ?_ GE294.out) | exact HB.out)) hb); clear HO_295001; clear BK293; clear BK294; clear HB; have HO_295001 := n0_; have BK293 := n1_; have BK294 := n2_; have HB := n3_; clear n0_ n1_ n2_ n3_; (try clear hb); (try clear hb2); (try clear hk); (try clear hi); have hcz35_0 : w34.cell? ⟨gb293, 0, none⟩ = some (.int .i64 0) := (xc BK293.out 0).trans rfl; have hcz35_1 : w34.cell? ⟨gb293, 1, none⟩ = some (.slice none 0 0) := (xc BK293.out 1).trans rfl; have hfz35_0 := xf BK293.out 0; have hfz35_1 := xf BK293.out 1))
     refine bodyPost_ret (results_ct rfl _ _ gb293 41 #[.int .i64 0, .slice none 0 0] (0, 0) _ rfl (by (with_reducible repeat (first | refine xq ?_ _ | refine xr ?_ | refine xo ?_ _)); refine blk_put (cs := #[.int .i64 0, .slice none 0 0]) ?_ 1 _ rfl; (with_reducible repeat (first | refine xq ?_ _ | refine xr ?_ | refine xo ?_ _)); refine blk_put (cs := #[.int .i64 0, .slice none 0 0]) ?_ 0 _ rfl; (with_reducible repeat (first | refine xq ?_ _ | refine xr ?_ | refine xo ?_ _)); exact BK293.out) Try.underlying41 rfl (by kernel_rfl)) rfl ?_
     exact ⟨_, by first | rfl | (simp [errW_none, errW_some] <;> rfl) | (simp [*, errW_none, errW_some] <;> rfl), by first | exact Kd.S_nil _ _ _ _ _ | exact Kd.N_nil _ _ _ _ _ | exact Kd.V_nil _ _ _ _ _ | exact Kd.Q_nil _ _ _ _ _ | exact Kd.R_nil _ _ _ _ _, by repeat (first | (with_reducible first | exact HB.out | apply xa | apply xn | apply xd | refine xt ?_ GE293.out | refine xt ?_ GE294.out) | exact HB.out)⟩

/-! ### spec_EmptyTable: function 30 -/
def spec_EmptyTable.f (k : Nat) (a0 : Int) : Option (Int × (List (S126)) × Bool) := (spec_l2Tell.f k a0 ([] : List (S126))).bind fun bt305 => (some (bt305.1, bt305.2.1, bt305.2.2))
theorem spec_EmptyTable.mono : ∀ a0 k, LeO (spec_EmptyTable.f k a0) (spec_EmptyTable.f (k + 1) a0) := by
 intro a0 k
 unfold spec_EmptyTable.f
 repeat' first
   | (with_reducible exact spec_l2Tell.mono _ _ _)
   | (with_reducible exact LeO.refl _)
   | (with_reducible exact LeO.none _)
   | (with_reducible refine LeO.ite ?_ ?_)
   | (with_reducible refine LeO.bind ?_ (fun _ => ?_))
   | exact spec_l2Tell.mono _ _ _
   | exact LeO.none _
   | refine LeO.ite ?_ ?_
   | refine LeO.bind ?_ (fun _ => ?_)
set_option maxHeartbeats 8000000 in
set_option maxRecDepth 100000 in
theorem spec_EmptyTable.calls (k : Nat) (a0 : Int) (r1 : Int) (r2 : List (S126)) (r3 : Bool) (w : World) (h : spec_EmptyTable.f k a0 = some (r1, r2, r3)) :
  Calls Try.prog 30 #[.int .i64 a0] w fun e w' => ∃ v1_ : Value, e = .returned (.tuple #[.agg #[.int .i64 r1, v1_], .bool r3]) ∧ Kd.S k126 126 w' w.heap.size (fun _ => True) v1_ r2 ∧ Below w.heap.size w w' := by
 have hu41 := Try.underlying41
 have HB := xm (Below.refl w.heap.size w)
 have H : ((spec_l2Tell.f k a0 ([] : List (S126))).bind fun bt305 => (some (bt305.1, bt305.2.1, bt305.2.2))) = some (r1, r2, r3) := h
 clear h
 replace H := Option.bind_eq_some_iff.mp H
 obtain ⟨⟨t305, t306, t309⟩, A20, H⟩ := H
 replace H : (some (t305, t306, t309)) = some (r1, r2, r3) := H
 have A2 := xm A20
 clear A20
 simp only [Option.some.injEq, Prod.mk.injEq] at H
 obtain ⟨rfl, rfl, rfl⟩ := H
 go_enter Try.func30, Try.ntmps30
 go_wp2_with (first | ((with_reducible refine gate_dst (N := 2) rfl ?_); refine box_event ?hg (N := 2) ?hd (cs := #[.int .i64 0, .slice none 0 0]) (t := 41) ?hr ?_; (case hd => rfl); (case hg => rfl); (case hr => first | (go_simp; done) | (go_simp; rfl)); intro gb304 hg w3 hbox hb; have n0_ := xm (below_step (by repeat (first | (with_reducible first | exact HB.out | apply xa | apply xn | apply xd) | exact HB.out)) hb); have n1_ := xm (hbox); have n2_ := xm ((by rw [hg]; exact (xz (by repeat (first | (with_reducible first | exact HB.out | apply xa | apply xn | apply xd) | exact HB.out))) : w.heap.size ≤ gb304)); have n3_ := xm ((by rw [hg]; exact (xz (by repeat (first | (with_reducible first | exact HB.out | apply xa | apply xn | apply xd) | exact HB.out))) : w.heap.size ≤ gb304)); clear HB; have HB := n0_; have BK304 := n1_; have GW304 := n2_; have GE304 := n3_; clear n0_ n1_ n2_ n3_; clear hb hbox hg) | ((with_reducible refine gate_callee (f := 90) rfl ?_); refine goesL_ (some 5) rfl rfl Try.func90 (by kernel_rfl) rfl #[.int .i64 a0, .slice none 0 0] rfl (by (try simp only [List.map_toArray, List.map_cons, List.map_nil]); first | done | rfl | (simp only [List.length_drop, List.length_take]; rfl)) ?_; (refine (spec_l2Tell.calls k a0 _ _ ([] : List (S126)) t305 t306 t309 _ ?side1 ?side2 A2.out).mono ?_); (case side1 => exact Kd.C_nil _ _); (case side2 => exact Nat.le_refl _); rintro e w4 ⟨v307, rfl, ho0, hb⟩; refine ⟨_, rfl, ?_⟩; have n0_ := xm (Kd.S_lower ho0 (xz (by repeat (first | (with_reducible first | exact HB.out | apply xa | apply xn | apply xd | refine xt ?_ GE304.out) | exact HB.out)))); have n1_ := xm (blk_below (g := gb304) (o := .cells #[.int .i64 0, .slice none 0 0] 41 (0, 0)) (by (with_reducible repeat (first | refine xq ?_ _ | refine xr ?_ | refine xo ?_ _)); exact BK304.out) hb); have n2_ := xm (below_step (by repeat (first | (with_reducible first | exact HB.out | apply xa | apply xn | apply xd | refine xt ?_ GE304.out) | exact HB.out)) hb); clear BK304; clear HB; have HO308 := n0_; have BK304 := n1_; have HB := n2_; clear n0_ n1_ n2_; (try clear hb); (try clear hb2); (try clear hk); (try clear hi); (try clear ho0); have hcz5_0 : w4.cell? ⟨gb304, 0, none⟩ = some (.int .i64 0) := (xc BK304.out 0).trans rfl; have hcz5_1 : w4.cell? ⟨gb304, 1, none⟩ = some (.slice none 0 0) := (xc BK304.out 1).trans rfl; have hfz5_0 := xf BK304.out 0; have hfz5_1 := xf BK304.out 1; obtain ⟨Ao6, co6, eo6⟩ := Kd.S_slice HO308.out; subst eo6))
 refine bodyPost_ret (results_ct rfl _ _ gb304 41 #[.int .i64 t305, .slice Ao6 t306.length co6] (0, 0) _ rfl (by (with_reducible repeat (first | refine xq ?_ _ | refine xr ?_ | refine xo ?_ _)); refine blk_put (cs := #[.int .i64 t305, .slice none 0 0]) ?_ 1 _ rfl; (with_reducible repeat (first | refine xq ?_ _ | refine xr ?_ | refine xo ?_ _)); refine blk_put (cs := #[.int .i64 0, .slice none 0 0]) ?_ 0 _ rfl; (with_reducible repeat (first | refine xq ?_ _ | refine xr ?_ | refine xo ?_ _)); exact BK304.out) Try.underlying41 rfl (by kernel_rfl)) rfl ?_
 exact ⟨_, by first | rfl | (simp [errW_none, errW_some] <;> rfl) | (simp [*, errW_none, errW_some] <;> rfl), by (with_reducible repeat (first | apply Kd.S_alloc | apply Kd.S_drewN | apply Kd.S_drew)); exact Kd.S_mono (Kd.S_far (p := ⟨gb304, 1, none⟩) (Kd.S_far (p := ⟨gb304, 0, none⟩) (Kd.S_types HO308.out BK304.out (by decide)) (fun _ hk => hk.2) (.int .i64 t305)) (fun _ hk => hk.2) (.slice Ao6 t306.length co6)) (fun _ hk => trivial), by repeat (first | (with_reducible first | exact HB.out | apply xa | apply xn | apply xd | refine xt ?_ GE304.out) | exact HB.out)⟩

/-! ### impl_EmptyTable: function 31 -/
def impl_EmptyTable.f (a0 : Int) : Option (Int × (List (S126)) × Bool) := (impl_isColumns.f a0).bind fun t312 => (if t312 = true then (some (a0, ([] : List (S126)), true)) else (some (0, ([] : List (S126)), false)))
set_option maxHeartbeats 8000000 in
set_option maxRecDepth 100000 in
theorem impl_EmptyTable.calls (a0 : Int) (r1 : Int) (r2 : List (S126)) (r3 : Bool) (w : World) (h : impl_EmptyTable.f a0 = some (r1, r2, r3)) :
  Calls Try.prog 31 #[.int .i64 a0] w fun e w' => ∃ v1_ : Value, e = .returned (.tuple #[.agg #[.int .i64 r1, v1_], .bool r3]) ∧ Kd.S k126 126 w' w.heap.size (fun _ => True) v1_ r2 ∧ Below w.heap.size w w' := by
 have hu41 := Try.underlying41
 have HB := xm (Below.refl w.heap.size w)
 have H : ((impl_isColumns.f a0).bind fun t312 => (if t312 = true then (some (a0, ([] : List (S126)), true)) else (some (0, ([] : List (S126)), false)))) = some (r1, r2, r3) := h
 clear h
 replace H := Option.bind_eq_some_iff.mp H
 obtain ⟨t312, A20, H⟩ := H
 replace H : (if t312 = true then (some (a0, ([] : List (S126)), true)) else (some (0, ([] : List (S126)), false))) = some (r1, r2, r3) := H
 have A2 := xm A20
 clear A20
 by_cases c3 : t312 = true
 ·subst c3
  have H1 : (some (a0, ([] : List (S126)), true)) = some (r1, r2, r3) := by first | (with_reducible rfl) | (rw [if_pos rfl] at H; exact H)
  clear H
  have H := H1
  clear H1
  simp only [Option.some.injEq, Prod.mk.injEq] at H
  obtain ⟨rfl, rfl, rfl⟩ := H
  go_enter Try.func31, Try.ntmps31
  go_wp2_with (first | ((with_reducible refine gate_dst (N := 2) rfl ?_); refine box_event ?hg (N := 2) ?hd (cs := #[.int .i64 0, .slice none 0 0]) (t := 41) ?hr ?_; (case hd => rfl); (case hg => rfl); (case hr => first | (go_simp; done) | (go_simp; rfl)); intro gb311 hg w4 hbox hb; have n0_ := xm (below_step (by repeat (first | (with_reducible first | exact HB.out | apply xa | apply xn | apply xd) | exact HB.out)) hb); have n1_ := xm (hbox); have n2_ := xm ((by rw [hg]; exact (xz (by repeat (first | (with_reducible first | exact HB.out | apply xa | apply xn | apply xd) | exact HB.out))) : w.heap.size ≤ gb311)); have n3_ := xm ((by rw [hg]; exact (xz (by repeat (first | (with_reducible first | exact HB.out | apply xa | apply xn | apply xd) | exact HB.out))) : w.heap.size ≤ gb311)); clear HB; have HB := n0_; have BK311 := n1_; have GW311 := n2_; have GE311 := n3_; clear n0_ n1_ n2_ n3_; clear hb hbox hg) | ((with_reducible refine gate_callee (f := 91) rfl ?_); refine goesL_ (some 5) rfl rfl Try.func91 (by kernel_rfl) rfl #[.int .i64 a0] rfl (by (try simp only [List.map_toArray, List.map_cons, List.map_nil]); first | done | rfl | (simp only [List.length_drop, List.length_take]; rfl)) ?_; (with_reducible refine (impl_isColumns.calls a0 true _ A2.out).mono ?_); rintro e w' ⟨rfl, ⟨nd, rfl⟩⟩; refine ⟨_, rfl, ?_⟩; (first | (rw [drewN_self w4]; generalize hq_ : World.drewN w4 _ = w4; have n0_ : Aside0 (w4.heap[gb311]? = some (.cells #[.int .i64 0, .slice none 0 0] 41 (0, 0))) := ⟨by rw [← hq_]; exact (by (with_reducible repeat (first | refine xq ?_ _ | refine xr ?_ | refine xo ?_ _)); exact BK311.out)⟩; have n1_ : Aside0 (Below w.heap.size w w4) := ⟨by rw [← hq_]; exact (by repeat (first | (with_reducible first | exact HB.out | apply xa | apply xn | apply xd | refine xt ?_ GE311.out) | exact HB.out))⟩; clear BK311 HB hq_; have BK311 := n0_; have HB := n1_; clear n0_ n1_) | (have n0_ : Aside0 (w4.heap[gb311]? = some (.cells #[.int .i64 0, .slice none 0 0] 41 (0, 0))) := ⟨(by (with_reducible repeat (first | refine xq ?_ _ | refine xr ?_ | refine xo ?_ _)); exact BK311.out)⟩; have n1_ : Aside0 (Below w.heap.size w w4) := ⟨(by repeat (first | (with_reducible first | exact HB.out | apply xa | apply xn | apply xd | refine xt ?_ GE311.out) | exact HB.out))⟩; clear BK311 HB; have BK311 := n0_; have HB := n1_; clear n0_ n1_)); have hcz5_0 : w4.cell? ⟨gb311, 0, none⟩ = some (.int .i64 0) := (xc BK311.out 0).trans rfl; have hcz5_1 : w4.cell? ⟨gb311, 1, none⟩ = some (.slice none 0 0) := (xc BK311.out 1).trans rfl; have hfz5_0 := xf BK311.out 0; have hfz5_1 := xf BK311.out 1))
  refine bodyPost_ret (results_ct rfl _ _ gb311 41 #[.int .i64 a0, .slice none 0 0] (0, 0) _ rfl (by (with_reducible repeat (first | refine xq ?_ _ | refine xr ?_ | refine xo ?_ _)); refine blk_put (cs := #[.int .i64 a0, .slice none 0 0]) ?_ 1 _ rfl; (with_reducible repeat (first | refine xq ?_ _ | refine xr ?_ | refine xo ?_ _)); refine blk_put (cs := #[.int .i64 0, .slice none 0 0]) ?_ 0 _ rfl; (with_reducible repeat (first | refine xq ?_ _ | refine xr ?_ | refine xo ?_ _)); exact BK311.out) Try.underlying41 rfl (by kernel_rfl)) rfl ?_
  exact ⟨_, by first | rfl | (simp [errW_none, errW_some] <;> rfl) | (simp [*, errW_none, errW_some] <;> rfl), by first | exact Kd.S_nil _ _ _ _ _ | exact Kd.N_nil _ _ _ _ _ | exact Kd.V_nil _ _ _ _ _ | exact Kd.Q_nil _ _ _ _ _ | exact Kd.R_nil _ _ _ _ _, by repeat (first | (with_reducible first | exact HB.out | apply xa | apply xn | apply xd | refine xt ?_ GE311.out) | exact HB.out)⟩
 ·replace c3 := Bool.eq_false_iff.mpr c3
  subst c3
  have H1 : (some (0, ([] : List (S126)), false)) = some (r1, r2, r3) := by first | (with_reducible rfl) | (rw [if_neg (show ¬ (false = true) by decide)] at H; exact H)
  clear H
  have H := H1
  clear H1
  simp only [Option.some.injEq, Prod.mk.injEq] at H
  obtain ⟨rfl, rfl, rfl⟩ := H
  go_enter Try.func31, Try.ntmps31
  go_wp2_with (first | ((with_reducible refine gate_dst (N := 2) rfl ?_); refine box_event ?hg (N := 2) ?hd (cs := #[.int .i64 0, .slice none 0 0]) (t := 41) ?hr ?_; (case hd => rfl); (case hg => rfl); (case hr => first | (go_simp; done) | (go_simp; rfl)); intro gb311 hg w6 hbox hb; have n0_ := xm (below_step (by repeat (first | (with_reducible first | exact HB.out | apply xa | apply xn | apply xd) | exact HB.out)) hb); have n1_ := xm (hbox); have n2_ := xm ((by rw [hg]; exact (xz (by repeat (first | (with_reducible first | exact HB.out | apply xa | apply xn | apply xd) | exact HB.out))) : w.heap.size ≤ gb311)); have n3_ := xm ((by rw [hg]; exact (xz (by repeat (first | (with_reducible first | exact HB.out | apply xa | apply xn | apply xd) | exact HB.out))) : w.heap.size ≤ gb311)); clear HB; have HB := n0_; have BK311 := n1_; have GW311 := n2_; have GE311 := n3_; clear n0_ n1_ n2_ n3_; clear hb hbox hg) | ((with_reducible refine gate_callee (f := 91) rfl ?_); refine goesL_ (some 5) rfl rfl Try.func91 (by kernel_rfl) rfl #[.int .i64 a0] rfl (by (try simp only [List.map_toArray, List.map_cons, List.map_nil]); first | done | rfl | (simp only [List.length_drop, List.length_take]; rfl)) ?_; (with_reducible refine (impl_isColumns.calls a0 false _ A2.out).mono ?_); rintro e w' ⟨rfl, ⟨nd, rfl⟩⟩; refine ⟨_, rfl, ?_⟩; (first | (rw [drewN_self w6]; generalize hq_ : World.drewN w6 _ = w6; have n0_ : Aside0 (w6.heap[gb311]? = some (.cells #[.int .i64 0, .slice none 0 0] 41 (0, 0))) := ⟨by rw [← hq_]; exact (by (with_reducible repeat (first | refine xq ?_ _ | refine xr ?_ | refine xo ?_ _)); exact BK311.out)⟩; have n1_ : Aside0 (Below w.heap.size w w6) := ⟨by rw [← hq_]; exact (by repeat (first | (with_reducible first | exact HB.out | apply xa | apply xn | apply xd | refine xt ?_ GE311.out) | exact HB.out))⟩; clear BK311 HB hq_; have BK311 := n0_; have HB := n1_; clear n0_ n1_) | (have n0_ : Aside0 (w6.heap[gb311]? = some (.cells #[.int .i64 0, .slice none 0 0] 41 (0, 0))) := ⟨(by (with_reducible repeat (first | refine xq ?_ _ | refine xr ?_ | refine xo ?_ _)); exact BK311.out)⟩; have n1_ : Aside0 (Below w.heap.size w w6) := ⟨(by repeat (first | (with_reducible first | exact HB.out | apply xa | apply xn | apply xd | refine xt ?_ GE311.out) | exact HB.out))⟩; clear BK311 HB; have BK311 := n0_; have HB := n1_; clear n0_ n1_)); have hcz7_0 : w6.cell? ⟨gb311, 0, none⟩ = some (.int .i64 0) := (xc BK311.out 0).trans rfl; have hcz7_1 : w6.cell? ⟨gb311, 1, none⟩ = some (.slice none 0 0) := (xc BK311.out 1).trans rfl; have hfz7_0 := xf BK311.out 0; have hfz7_1 := xf BK311.out 1))
  refine bodyPost_ret (results_ct rfl _ _ gb311 41 #[.int .i64 0, .slice none 0 0] (0, 0) _ rfl (by (with_reducible repeat (first | refine xq ?_ _ | refine xr ?_ | refine xo ?_ _)); refine blk_put (cs := #[.int .i64 0, .slice none 0 0]) ?_ 1 _ rfl; (with_reducible repeat (first | refine xq ?_ _ | refine xr ?_ | refine xo ?_ _)); refine blk_put (cs := #[.int .i64 0, .slice none 0 0]) ?_ 0 _ rfl; (with_reducible repeat (first | refine xq ?_ _ | refine xr ?_ | refine xo ?_ _)); exact BK311.out) Try.underlying41 rfl (by kernel_rfl)) rfl ?_
  exact ⟨_, by first | rfl | (simp [errW_none, errW_some] <;> rfl) | (simp [*, errW_none, errW_some] <;> rfl), by first | exact Kd.S_nil _ _ _ _ _ | exact Kd.N_nil _ _ _ _ _ | exact Kd.V_nil _ _ _ _ _ | exact Kd.Q_nil _ _ _ _ _ | exact Kd.R_nil _ _ _ _ _, by repeat (first | (with_reducible first | exact HB.out | apply xa | apply xn | apply xd | refine xt ?_ GE311.out) | exact HB.out)⟩

/-! ### laws_FnExactEmptyTable: function 5 -/
def laws_FnExactEmptyTable.f (k : Nat) (a0 : Int) : Option (Bool) := (spec_EmptyTable.f k a0).bind fun t1b => ((impl_EmptyTable.f a0).bind fun t11b => ((laws_eqTable.f k t11b.1 t11b.2.1 t1b.1 t1b.2.1).bind fun t21b => (if t21b = true then (if (t11b.2.2 != t1b.2.2) = true then (some false) else ((laws_markTable.f k t11b.1 t11b.2.1 1).bind fun t24b => ((laws_heldTable.f k t11b.1 t24b.2 1).bind fun t25b => (if t25b < 0 then (some false) else (if t25b = t24b.1 then ((impl_EmptyTable.f a0).bind fun t28b => ((laws_eqTable.f k t28b.1 t28b.2.1 t1b.1 t1b.2.1).bind fun t38b => (if t38b = true then (if (t28b.2.2 != t1b.2.2) = true then (some false) else ((laws_heldTable.f k t11b.1 t24b.2 1).bind fun t41b => (if t41b < 0 then (some false) else (if t41b = t24b.1 then ((some true)) else (some false))))) else (some false)))) else (some false)))))) else (some false))))
theorem laws_FnExactEmptyTable.mono : ∀ a0_ k, LeO (laws_FnExactEmptyTable.f k a0_) (laws_FnExactEmptyTable.f (k + 1) a0_) := by
 intro a0_ k
 unfold laws_FnExactEmptyTable.f
 repeat' first
  | (with_reducible exact laws_eqTable.mono _ _ _ _ _)
  | (with_reducible exact laws_heldTable.mono _ _ _ _)
  | (with_reducible exact laws_markTable.mono _ _ _ _)
  | (with_reducible exact spec_EmptyTable.mono _ _)
  | (with_reducible exact LeO.refl _)
  | (with_reducible exact LeO.none _)
  | (with_reducible refine LeO.ite ?_ ?_)
  | (with_reducible refine LeO.bind ?_ (fun _ => ?_))
  | exact laws_eqTable.mono _ _ _ _ _
  | exact laws_heldTable.mono _ _ _ _
  | exact laws_markTable.mono _ _ _ _
  | exact spec_EmptyTable.mono _ _
set_option maxHeartbeats 8000000 in
set_option maxRecDepth 100000 in
theorem laws_FnExactEmptyTable.calls (k : Nat) (a0 : Int) (w : World) (h : laws_FnExactEmptyTable.f k a0 = some true) :
  Calls Try.prog 5 #[.int .i64 a0] w fun e w' => e = .returned (.bool true) ∧ Below w.heap.size w w' := by
 have hu41 := Try.underlying41
 have HB := xm (Below.refl w.heap.size w)
 unfold laws_FnExactEmptyTable.f at h
 obtain ⟨⟨t1_0, t1_1, t1_2⟩, t1A0, h⟩ := Option.bind_eq_some_iff.mp h
 (try dsimp only at h)
 have t1A := xm t1A0
 clear t1A0
 obtain ⟨⟨t11_0, t11_1, t11_2⟩, t11A0, h⟩ := Option.bind_eq_some_iff.mp h
 (try dsimp only at h)
 have t11A := xm t11A0
 clear t11A0
 obtain ⟨t21_0, t21A0, h⟩ := Option.bind_eq_some_iff.mp h
 (try dsimp only at h)
 have t21A := xm t21A0
 clear t21A0
 obtain ⟨c22, h⟩ := law_t h
 subst c22
 obtain ⟨c23, h⟩ := law_f h
 have c23b0 : (t11_2 != t1_2) = false := by simpa using c23
 have c23b1 : decide (t11_2 = t1_2) = true := by simpa using c23
 have c23b2 : (t11_2 == t1_2) = true := by simpa using c23
 clear c23
 obtain ⟨⟨t24_0, t24_1⟩, t24A0, h⟩ := Option.bind_eq_some_iff.mp h
 (try dsimp only at h)
 have t24A := xm t24A0
 clear t24A0
 obtain ⟨t25_0, t25A0, h⟩ := Option.bind_eq_some_iff.mp h
 (try dsimp only at h)
 have t25A := xm t25A0
 clear t25A0
 obtain ⟨c26, h⟩ := law_f h
 have c26b := decide_eq_false c26
 clear c26
 obtain ⟨c27, h⟩ := law_t h
 have c27b0 : (t25_0 == t24_0) = true := beq_iff_eq.mpr c27
 have c27b1 : (t25_0 != t24_0) = false := bne_eq_false_iff_eq.mpr c27
 have c27b2 : decide (t25_0 = t24_0) = true := decide_eq_true c27
 clear c27
 obtain ⟨⟨t28_0, t28_1, t28_2⟩, t28A0, h⟩ := Option.bind_eq_some_iff.mp h
 (try dsimp only at h)
 have t28A := xm t28A0
 clear t28A0
 obtain ⟨t38_0, t38A0, h⟩ := Option.bind_eq_some_iff.mp h
 (try dsimp only at h)
 have t38A := xm t38A0
 clear t38A0
 obtain ⟨c39, h⟩ := law_t h
 subst c39
 obtain ⟨c40, h⟩ := law_f h
 have c40b0 : (t28_2 != t1_2) = false := by simpa using c40
 have c40b1 : decide (t28_2 = t1_2) = true := by simpa using c40
 have c40b2 : (t28_2 == t1_2) = true := by simpa using c40
 clear c40
 obtain ⟨t41_0, t41A0, h⟩ := Option.bind_eq_some_iff.mp h
 (try dsimp only at h)
 have t41A := xm t41A0
 clear t41A0
 obtain ⟨c42, h⟩ := law_f h
 have c42b := decide_eq_false c42
 clear c42
 obtain ⟨c43, h⟩ := law_t h
 have c43b0 : (t41_0 == t24_0) = true := beq_iff_eq.mpr c43
 have c43b1 : (t41_0 != t24_0) = false := bne_eq_false_iff_eq.mpr c43
 have c43b2 : decide (t41_0 = t24_0) = true := decide_eq_true c43
 clear c43
 clear h
 go_enter Try.func5, Try.ntmps5
 go_wp2_with (first
  | ((with_reducible refine gate_callee (f := 30) rfl ?_); refine goesL_ (some 13) rfl rfl Try.func30 (by kernel_rfl) rfl #[.int .i64 a0] rfl (by (try simp only [List.map_toArray, List.map_cons, List.map_nil]); first | done | rfl) ?_; refine (spec_EmptyTable.calls k a0 t1_0 t1_1 t1_2 _ t1A.out).mono ?_; rintro e w1_ ⟨v1_, rfl, h0_, hb_⟩; refine ⟨_, rfl, ?_⟩; have Z1 := xm (hb_.size : w.heap.size ≤ w1_.heap.size); have hk_ := Kept.of_below hb_ (fun _ => False); obtain ⟨A3, c4, rfl⟩ := Kd.S_slice h0_; obtain ⟨P5, p1_, p2_, p3_⟩ := hideS (base := w.heap.size) h0_ (szOf (w := w) (by repeat (first | (with_reducible first | exact HB.out | apply xa | apply xn | apply xd) | exact HB.out))); have F2 := xm p1_; have B6 : Aside0 (∀ k_, P5 k_ → w.heap.size ≤ k_ ∧ k_ < w1_.heap.size) := xm p2_; have T7 := xm p3_; clear p1_ p2_ p3_; have m0_ := xm (below_step (w := w) (by repeat (first | (with_reducible first | exact HB.out | apply xa | apply xn | apply xd) | exact HB.out)) hb_); clear HB; have HB := m0_; clear m0_ hb_ hk_ h0_)
  | ((with_reducible refine gate_dst (N := 3) rfl ?_); refine box_event ?hgq9 (N := 3) ?hdq9 (cs := #[.int .i64 0, .slice none 0 0]) (t := 41) ?hrq9 ?_; (case hdq9 => rfl); (case hgq9 => rfl); (case hrq9 => first | (go_simp; done) | (go_simp; rfl)); intro g8 hg_ w2_ hbox_ hb_; have Z2 := xm (hb_.size : w1_.heap.size ≤ w2_.heap.size); have hk_ := Kept.of_below hb_ (fun _ => False); have m0_ := xm (Kd.S_kept (by (with_reducible repeat (first | apply Kd.S_alloc | apply Kd.S_drewN | apply Kd.S_drew)); exact F2.out) hk_ (fun _ _ h_ => h_)); clear F2; have F2 := m0_; clear m0_; have m0_ := xm (below_step (w := w) (by repeat (first | (with_reducible first | exact HB.out | apply xa | apply xn | apply xd) | exact HB.out)) hb_); clear HB; have HB := m0_; have BKg8 := xm hbox_; have GBg8 : Aside0 (w1_.heap.size ≤ g8 ∧ g8 < w2_.heap.size) := xm ⟨by rw [hg_]; exact Nat.le_refl _, blk_lt hbox_⟩; clear m0_ hb_ hbox_ hg_ hk_; (try clear hcg8_0 hfg8_0); have hcg8_0 : w2_.cell? ⟨g8, 0, none⟩ = some (.int .i64 0) := (xc BKg8.out 0).trans rfl; have hfg8_0 := xf BKg8.out 0; (try clear hcg8_1 hfg8_1); have hcg8_1 : w2_.cell? ⟨g8, 1, none⟩ = some (.slice none 0 0) := (xc BKg8.out 1).trans rfl; have hfg8_1 := xf BKg8.out 1)
  | ((with_reducible refine gate_store (t := 41) (p := 3) rfl ?_); refine store_event (t := 41) (p := 3) (v := ?voq10) (w1 := ((w2_.setCell ⟨g8, 0, none⟩ (.int .i64 t1_0)).setCell ⟨g8, 1, none⟩ (.slice A3 t1_1.length c4))) ?hgq10 ?hoq10 ?hnq10 ?hrq10 ?_; (case hoq10 => rfl); (case hgq10 => rfl); (case hnq10 => rfl); (case hrq10 => first | (go_simp; done) | (go_simp; rfl)); intro w3_ hw_; have hk_ : Kept w2_ w3_ (fun k_ => k_ = g8) := (by rw [hw_]; exact kept_box (kept_box (Kept.refl _ _) _ _) _ _); have hx_ : w3_.heap[g8]? = some (.cells #[.int .i64 t1_0, .slice A3 t1_1.length c4] 41 (0, 0)) := (by rw [hw_]; refine blk_put (cs := #[.int .i64 t1_0, .slice none 0 0]) ?_ 1 _ rfl; refine blk_put (cs := #[.int .i64 0, .slice none 0 0]) ?_ 0 _ rfl; exact BKg8.out); have Z3 := xm (hk_.1 : w2_.heap.size ≤ w3_.heap.size); have ge_ : w.heap.size ≤ g8 := (by have := GBg8.out; have := Z1.out; omega); have mb_ : Aside0 (Below w.heap.size w w3_) := xm (by rw [hw_]; exact xt (xt (HB.out) ge_) ge_); have hk2_ := (Kept.mono hk_ (S' := fun k_ => w1_.heap.size ≤ k_ ∧ k_ < w2_.heap.size) (fun k_ h_ => by have h_ : k_ = g8 := h_; subst h_; exact GBg8.out)); have m0_ := xm (Kd.S_kept (by (with_reducible repeat (first | apply Kd.S_alloc | apply Kd.S_drewN | apply Kd.S_drew)); exact F2.out) hk2_ (fun k_ h_ h2_ => by have u1_ := B6.out k_ h_; have u2_ : w1_.heap.size ≤ k_ ∧ k_ < w2_.heap.size := h2_; omega)); clear F2; have F2 := m0_; clear m0_; clear HB BKg8; have HB := mb_; have BKg8 := xm hx_; clear mb_ hx_ hk_ hk2_ hw_ ge_; (try clear hcg8_0 hfg8_0); have hcg8_0 : w3_.cell? ⟨g8, 0, none⟩ = some (.int .i64 t1_0) := (xc BKg8.out 0).trans rfl; have hfg8_0 := xf BKg8.out 0; (try clear hcg8_1 hfg8_1); have hcg8_1 : w3_.cell? ⟨g8, 1, none⟩ = some (.slice A3 t1_1.length c4) := (xc BKg8.out 1).trans rfl; have hfg8_1 := xf BKg8.out 1)
  | ((with_reducible refine gate_callee (f := 31) rfl ?_); refine goesL_ (some 18) rfl rfl Try.func31 (by kernel_rfl) rfl #[.int .i64 a0] rfl (by (try simp only [List.map_toArray, List.map_cons, List.map_nil]); first | done | rfl) ?_; refine (impl_EmptyTable.calls a0 t11_0 t11_1 t11_2 _ t11A.out).mono ?_; rintro e w4_ ⟨v1_, rfl, h0_, hb_⟩; refine ⟨_, rfl, ?_⟩; have Z4 := xm (hb_.size : w3_.heap.size ≤ w4_.heap.size); have hk_ := Kept.of_below hb_ (fun _ => False); obtain ⟨A13, c14, rfl⟩ := Kd.S_slice h0_; obtain ⟨P15, p1_, p2_, p3_⟩ := hideS (base := w.heap.size) h0_ (szOf (w := w) (by repeat (first | (with_reducible first | exact HB.out | apply xa | apply xn | apply xd) | exact HB.out))); have F12 := xm p1_; have B16 : Aside0 (∀ k_, P15 k_ → w3_.heap.size ≤ k_ ∧ k_ < w4_.heap.size) := xm p2_; have T17 := xm p3_; clear p1_ p2_ p3_; have m0_ := xm (Kd.S_kept (by (with_reducible repeat (first | apply Kd.S_alloc | apply Kd.S_drewN | apply Kd.S_drew)); exact F2.out) hk_ (fun _ _ h_ => h_)); have m1_ := xm (blk_kept (by (with_reducible repeat (first | refine xq ?_ _ | refine xr ?_ | refine xo ?_ _)); exact BKg8.out) hk_ (fun h_ => h_)); clear F2 BKg8; have F2 := m0_; have BKg8 := m1_; clear m0_ m1_; have m0_ := xm (below_step (w := w) (by repeat (first | (with_reducible first | exact HB.out | apply xa | apply xn | apply xd) | exact HB.out)) hb_); clear HB; have HB := m0_; clear m0_ hb_ hk_ h0_; (try clear hcg8_0 hfg8_0); have hcg8_0 : w4_.cell? ⟨g8, 0, none⟩ = some (.int .i64 t1_0) := (xc BKg8.out 0).trans rfl; have hfg8_0 := xf BKg8.out 0; (try clear hcg8_1 hfg8_1); have hcg8_1 : w4_.cell? ⟨g8, 1, none⟩ = some (.slice A3 t1_1.length c4) := (xc BKg8.out 1).trans rfl; have hfg8_1 := xf BKg8.out 1)
  | ((with_reducible refine gate_dst (N := 5) rfl ?_); refine box_event ?hgq19 (N := 5) ?hdq19 (cs := #[.int .i64 0, .slice none 0 0]) (t := 41) ?hrq19 ?_; (case hdq19 => rfl); (case hgq19 => rfl); (case hrq19 => first | (go_simp; done) | (go_simp; rfl)); intro g18 hg_ w5_ hbox_ hb_; have Z5 := xm (hb_.size : w4_.heap.size ≤ w5_.heap.size); have hk_ := Kept.of_below hb_ (fun _ => False); have m0_ := xm (Kd.S_kept (by (with_reducible repeat (first | apply Kd.S_alloc | apply Kd.S_drewN | apply Kd.S_drew)); exact F2.out) hk_ (fun _ _ h_ => h_)); have m1_ := xm (Kd.S_kept (by (with_reducible repeat (first | apply Kd.S_alloc | apply Kd.S_drewN | apply Kd.S_drew)); exact F12.out) hk_ (fun _ _ h_ => h_)); have m2_ := xm (blk_kept (by (with_reducible repeat (first | refine xq ?_ _ | refine xr ?_ | refine xo ?_ _)); exact BKg8.out) hk_ (fun h_ => h_)); clear F2 F12 BKg8; have F2 := m0_; have F12 := m1_; have BKg8 := m2_; clear m0_ m1_ m2_; have m0_ := xm (below_step (w := w) (by repeat (first | (with_reducible first | exact HB.out | apply xa | apply xn | apply xd) | exact HB.out)) hb_); clear HB; have HB := m0_; have BKg18 := xm hbox_; have GBg18 : Aside0 (w4_.heap.size ≤ g18 ∧ g18 < w5_.heap.size) := xm ⟨by rw [hg_]; exact Nat.le_refl _, blk_lt hbox_⟩; clear m0_ hb_ hbox_ hg_ hk_; (try clear hcg8_0 hfg8_0); have hcg8_0 : w5_.cell? ⟨g8, 0, none⟩ = some (.int .i64 t1_0) := (xc BKg8.out 0).trans rfl; have hfg8_0 := xf BKg8.out 0; (try clear hcg8_1 hfg8_1); have hcg8_1 : w5_.cell? ⟨g8, 1, none⟩ = some (.slice A3 t1_1.length c4) := (xc BKg8.out 1).trans rfl; have hfg8_1 := xf BKg8.out 1; (try clear hcg18_0 hfg18_0); have hcg18_0 : w5_.cell? ⟨g18, 0, none⟩ = some (.int .i64 0) := (xc BKg18.out 0).trans rfl; have hfg18_0 := xf BKg18.out 0; (try clear hcg18_1 hfg18_1); have hcg18_1 : w5_.cell? ⟨g18, 1, none⟩ = some (.slice none 0 0) := (xc BKg18.out 1).trans rfl; have hfg18_1 := xf BKg18.out 1)
  | ((with_reducible refine gate_store (t := 41) (p := 5) rfl ?_); refine store_event (t := 41) (p := 5) (v := ?voq20) (w1 := ((w5_.setCell ⟨g18, 0, none⟩ (.int .i64 t11_0)).setCell ⟨g18, 1, none⟩ (.slice A13 t11_1.length c14))) ?hgq20 ?hoq20 ?hnq20 ?hrq20 ?_; (case hoq20 => rfl); (case hgq20 => rfl); (case hnq20 => rfl); (case hrq20 => first | (go_simp; done) | (go_simp; rfl)); intro w6_ hw_; have hk_ : Kept w5_ w6_ (fun k_ => k_ = g18) := (by rw [hw_]; exact kept_box (kept_box (Kept.refl _ _) _ _) _ _); have hx_ : w6_.heap[g18]? = some (.cells #[.int .i64 t11_0, .slice A13 t11_1.length c14] 41 (0, 0)) := (by rw [hw_]; refine blk_put (cs := #[.int .i64 t11_0, .slice none 0 0]) ?_ 1 _ rfl; refine blk_put (cs := #[.int .i64 0, .slice none 0 0]) ?_ 0 _ rfl; exact BKg18.out); have Z6 := xm (hk_.1 : w5_.heap.size ≤ w6_.heap.size); have ge_ : w.heap.size ≤ g18 := (by have := GBg18.out; have := Z1.out; have := Z2.out; have := Z3.out; have := Z4.out; omega); have mb_ : Aside0 (Below w.heap.size w w6_) := xm (by rw [hw_]; exact xt (xt (HB.out) ge_) ge_); have hk2_ := (Kept.mono hk_ (S' := fun k_ => w4_.heap.size ≤ k_ ∧ k_ < w5_.heap.size) (fun k_ h_ => by have h_ : k_ = g18 := h_; subst h_; exact GBg18.out)); have m0_ := xm (Kd.S_kept (by (with_reducible repeat (first | apply Kd.S_alloc | apply Kd.S_drewN | apply Kd.S_drew)); exact F2.out) hk2_ (fun k_ h_ h2_ => by have u1_ := B6.out k_ h_; have u2_ : w4_.heap.size ≤ k_ ∧ k_ < w5_.heap.size := h2_; have := Z2.out; have := Z3.out; have := Z4.out; omega)); have m1_ := xm (Kd.S_kept (by (with_reducible repeat (first | apply Kd.S_alloc | apply Kd.S_drewN | apply Kd.S_drew)); exact F12.out) hk2_ (fun k_ h_ h2_ => by have u1_ := B16.out k_ h_; have u2_ : w4_.heap.size ≤ k_ ∧ k_ < w5_.heap.size := h2_; omega)); have m2_ := xm (blk_kept (by (with_reducible repeat (first | refine xq ?_ _ | refine xr ?_ | refine xo ?_ _)); exact BKg8.out) hk2_ (fun h2_ => by have u1_ := GBg8.out; have u2_ : w4_.heap.size ≤ g8 ∧ g8 < w5_.heap.size := h2_; have := Z3.out; have := Z4.out; omega)); clear F2 F12 BKg8; have F2 := m0_; have F12 := m1_; have BKg8 := m2_; clear m0_ m1_ m2_; clear HB BKg18; have HB := mb_; have BKg18 := xm hx_; clear mb_ hx_ hk_ hk2_ hw_ ge_; (try clear hcg8_0 hfg8_0); have hcg8_0 : w6_.cell? ⟨g8, 0, none⟩ = some (.int .i64 t1_0) := (xc BKg8.out 0).trans rfl; have hfg8_0 := xf BKg8.out 0; (try clear hcg8_1 hfg8_1); have hcg8_1 : w6_.cell? ⟨g8, 1, none⟩ = some (.slice A3 t1_1.length c4) := (xc BKg8.out 1).trans rfl; have hfg8_1 := xf BKg8.out 1; (try clear hcg18_0 hfg18_0); have hcg18_0 : w6_.cell? ⟨g18, 0, none⟩ = some (.int .i64 t11_0) := (xc BKg18.out 0).trans rfl; have hfg18_0 := xf BKg18.out 0; (try clear hcg18_1 hfg18_1); have hcg18_1 : w6_.cell? ⟨g18, 1, none⟩ = some (.slice A13 t11_1.length c14) := (xc BKg18.out 1).trans rfl; have hfg18_1 := xf BKg18.out 1)
  | ((with_reducible refine gate_callee (f := 32) rfl ?_); refine goesL_ (some 23) rfl rfl Try.func32 (by kernel_rfl) rfl #[.agg #[.int .i64 t11_0, .slice A13 t11_1.length c14], .agg #[.int .i64 t1_0, .slice A3 t1_1.length c4]] rfl (by (try simp only [List.map_toArray, List.map_cons, List.map_nil]); first | done | rfl) ?_; refine (laws_eqTable.calls k t11_0 _ _ t11_1 t1_0 _ _ t1_1 true _ (by repeat (first | exact (Kd.S_reads' F12.out).2.2 | (with_reducible refine Kd.C_alloc ?_ _) | (with_reducible refine Kd.C_drewN ?_ _) | (with_reducible refine Kd.C_drew ?_))) (Kd.S_reads' F12.out).2.1 (by repeat (first | exact (Kd.S_reads' F2.out).2.2 | (with_reducible refine Kd.C_alloc ?_ _) | (with_reducible refine Kd.C_drewN ?_ _) | (with_reducible refine Kd.C_drew ?_))) (Kd.S_reads' F2.out).2.1 t21A.out).mono ?_; rintro e w7_ ⟨rfl, hb_⟩; refine ⟨_, rfl, ?_⟩; have Z7 := xm (hb_.size : w6_.heap.size ≤ w7_.heap.size); have hk_ := Kept.of_below hb_ (fun _ => False); have m0_ := xm (Kd.S_kept (by (with_reducible repeat (first | apply Kd.S_alloc | apply Kd.S_drewN | apply Kd.S_drew)); exact F2.out) hk_ (fun _ _ h_ => h_)); have m1_ := xm (Kd.S_kept (by (with_reducible repeat (first | apply Kd.S_alloc | apply Kd.S_drewN | apply Kd.S_drew)); exact F12.out) hk_ (fun _ _ h_ => h_)); have m2_ := xm (blk_kept (by (with_reducible repeat (first | refine xq ?_ _ | refine xr ?_ | refine xo ?_ _)); exact BKg8.out) hk_ (fun h_ => h_)); have m3_ := xm (blk_kept (by (with_reducible repeat (first | refine xq ?_ _ | refine xr ?_ | refine xo ?_ _)); exact BKg18.out) hk_ (fun h_ => h_)); clear F2 F12 BKg8 BKg18; have F2 := m0_; have F12 := m1_; have BKg8 := m2_; have BKg18 := m3_; clear m0_ m1_ m2_ m3_; have m0_ := xm (below_step (w := w) (by repeat (first | (with_reducible first | exact HB.out | apply xa | apply xn | apply xd) | exact HB.out)) hb_); clear HB; have HB := m0_; clear m0_ hb_ hk_; (try clear hcg8_0 hfg8_0); have hcg8_0 : w7_.cell? ⟨g8, 0, none⟩ = some (.int .i64 t1_0) := (xc BKg8.out 0).trans rfl; have hfg8_0 := xf BKg8.out 0; (try clear hcg8_1 hfg8_1); have hcg8_1 : w7_.cell? ⟨g8, 1, none⟩ = some (.slice A3 t1_1.length c4) := (xc BKg8.out 1).trans rfl; have hfg8_1 := xf BKg8.out 1; (try clear hcg18_0 hfg18_0); have hcg18_0 : w7_.cell? ⟨g18, 0, none⟩ = some (.int .i64 t11_0) := (xc BKg18.out 0).trans rfl; have hfg18_0 := xf BKg18.out 0; (try clear hcg18_1 hfg18_1); have hcg18_1 : w7_.cell? ⟨g18, 1, none⟩ = some (.slice A13 t11_1.length c14) := (xc BKg18.out 1).trans rfl; have hfg18_1 := xf BKg18.out 1)
  | ((with_reducible refine gate_callee (f := 33) rfl ?_); refine goesL_ (some 32) rfl rfl Try.func33 (by kernel_rfl) rfl #[.agg #[.int .i64 t11_0, .slice A13 t11_1.length c14], .int .i64 1] rfl (by (try simp only [List.map_toArray, List.map_cons, List.map_nil]); first | done | rfl) ?_; refine (laws_markTable.calls k t11_0 P15 (.slice A13 t11_1.length c14) t11_1 1 t24_0 t24_1 w _ (by repeat (first | (with_reducible first | exact HB.out | apply xa | apply xn | apply xd) | exact HB.out)) (by (with_reducible repeat (first | apply Kd.S_alloc | apply Kd.S_drewN | apply Kd.S_drew)); exact F12.out) t24A.out).mono ?_; rintro e w8_ ⟨rfl, h0_, hb_, hkp_⟩; refine ⟨_, rfl, ?_⟩; have Z8 := xm (hkp_.1 : w7_.heap.size ≤ w8_.heap.size); have hk2_ := Kept.mono hkp_ (S' := fun k_ => w3_.heap.size ≤ k_ ∧ k_ < w4_.heap.size) (fun k_ h_ => by exact B16.out k_ h_); have yF12 := xm h0_; have m0_ := xm (Kd.S_kept (by (with_reducible repeat (first | apply Kd.S_alloc | apply Kd.S_drewN | apply Kd.S_drew)); exact F2.out) hk2_ (fun k_ h_ h2_ => by have u1_ := B6.out k_ h_; have u2_ : w3_.heap.size ≤ k_ ∧ k_ < w4_.heap.size := h2_; have := Z2.out; have := Z3.out; omega)); have m1_ := xm (blk_kept (by (with_reducible repeat (first | refine xq ?_ _ | refine xr ?_ | refine xo ?_ _)); exact BKg8.out) hk2_ (fun h2_ => by have u1_ := GBg8.out; have u2_ : w3_.heap.size ≤ g8 ∧ g8 < w4_.heap.size := h2_; have := Z3.out; omega)); have m2_ := xm (blk_kept (by (with_reducible repeat (first | refine xq ?_ _ | refine xr ?_ | refine xo ?_ _)); exact BKg18.out) hk2_ (fun h2_ => by have u1_ := GBg18.out; have u2_ : w3_.heap.size ≤ g18 ∧ g18 < w4_.heap.size := h2_; omega)); clear F2 BKg8 BKg18; have F2 := m0_; have BKg8 := m1_; have BKg18 := m2_; clear m0_ m1_ m2_; clear F12; have F12 := yF12; clear yF12; clear HB; have HB := xm hb_; clear hb_ hkp_ hk2_ h0_; (try clear LEF12); have LEF12 := xm (Kd.S_reads' F12.out).1; (try clear hcg8_0 hfg8_0); have hcg8_0 : w8_.cell? ⟨g8, 0, none⟩ = some (.int .i64 t1_0) := (xc BKg8.out 0).trans rfl; have hfg8_0 := xf BKg8.out 0; (try clear hcg8_1 hfg8_1); have hcg8_1 : w8_.cell? ⟨g8, 1, none⟩ = some (.slice A3 t1_1.length c4) := (xc BKg8.out 1).trans rfl; have hfg8_1 := xf BKg8.out 1; (try clear hcg18_0 hfg18_0); have hcg18_0 : w8_.cell? ⟨g18, 0, none⟩ = some (.int .i64 t11_0) := (xc BKg18.out 0).trans rfl; have hfg18_0 := xf BKg18.out 0; (try clear hcg18_1 hfg18_1); have hcg18_1 : w8_.cell? ⟨g18, 1, none⟩ = some (.slice A13 t11_1.length c14) := (xc BKg18.out 1).trans rfl; have hfg18_1 := xf BKg18.out 1)
  | ((with_reducible refine gate_callee (f := 34) rfl ?_); refine goesL_ (some 35) rfl rfl Try.func34 (by kernel_rfl) rfl #[.agg #[.int .i64 t11_0, .slice A13 t11_1.length c14], .int .i64 1] rfl (by (try simp only [List.map_toArray, List.map_cons, List.map_nil]); first | done | rfl) ?_; refine calls_of_args (args' := #[.agg #[.int .i64 t11_0, .slice A13 t24_1.length c14], .int .i64 1]) (by simp only [LEF12.out]) ?_; refine (laws_heldTable.calls k t11_0 _ _ t24_1 1 t25_0 _ (by repeat (first | exact (Kd.S_reads' F12.out).2.2 | (with_reducible refine Kd.C_alloc ?_ _) | (with_reducible refine Kd.C_drewN ?_ _) | (with_reducible refine Kd.C_drew ?_))) (by have z_ := Kd.S_reads' F12.out; have y_ := z_.1; have x_ := z_.2.1; omega) t25A.out).mono ?_; rintro e w9_ ⟨rfl, hb_⟩; refine ⟨_, rfl, ?_⟩; have Z9 := xm (hb_.size : w8_.heap.size ≤ w9_.heap.size); have hk_ := Kept.of_below hb_ (fun _ => False); have m0_ := xm (Kd.S_kept (by (with_reducible repeat (first | apply Kd.S_alloc | apply Kd.S_drewN | apply Kd.S_drew)); exact F2.out) hk_ (fun _ _ h_ => h_)); have m1_ := xm (Kd.S_kept (by (with_reducible repeat (first | apply Kd.S_alloc | apply Kd.S_drewN | apply Kd.S_drew)); exact F12.out) hk_ (fun _ _ h_ => h_)); have m2_ := xm (blk_kept (by (with_reducible repeat (first | refine xq ?_ _ | refine xr ?_ | refine xo ?_ _)); exact BKg8.out) hk_ (fun h_ => h_)); have m3_ := xm (blk_kept (by (with_reducible repeat (first | refine xq ?_ _ | refine xr ?_ | refine xo ?_ _)); exact BKg18.out) hk_ (fun h_ => h_)); clear F2 F12 BKg8 BKg18; have F2 := m0_; have F12 := m1_; have BKg8 := m2_; have BKg18 := m3_; clear m0_ m1_ m2_ m3_; have m0_ := xm (below_step (w := w) (by repeat (first | (with_reducible first | exact HB.out | apply xa | apply xn | apply xd) | exact HB.out)) hb_); clear HB; have HB := m0_; clear m0_ hb_ hk_; (try clear hcg8_0 hfg8_0); have hcg8_0 : w9_.cell? ⟨g8, 0, none⟩ = some (.int .i64 t1_0) := (xc BKg8.out 0).trans rfl; have hfg8_0 := xf BKg8.out 0; (try clear hcg8_1 hfg8_1); have hcg8_1 : w9_.cell? ⟨g8, 1, none⟩ = some (.slice A3 t1_1.length c4) := (xc BKg8.out 1).trans rfl; have hfg8_1 := xf BKg8.out 1; (try clear hcg18_0 hfg18_0); have hcg18_0 : w9_.cell? ⟨g18, 0, none⟩ = some (.int .i64 t11_0) := (xc BKg18.out 0).trans rfl; have hfg18_0 := xf BKg18.out 0; (try clear hcg18_1 hfg18_1); have hcg18_1 : w9_.cell? ⟨g18, 1, none⟩ = some (.slice A13 t11_1.length c14) := (xc BKg18.out 1).trans rfl; have hfg18_1 := xf BKg18.out 1)
  | ((with_reducible refine gate_callee (f := 31) rfl ?_); refine goesL_ (some 43) rfl rfl Try.func31 (by kernel_rfl) rfl #[.int .i64 a0] rfl (by (try simp only [List.map_toArray, List.map_cons, List.map_nil]); first | done | rfl) ?_; refine (impl_EmptyTable.calls a0 t28_0 t28_1 t28_2 _ t28A.out).mono ?_; rintro e w10_ ⟨v1_, rfl, h0_, hb_⟩; refine ⟨_, rfl, ?_⟩; have Z10 := xm (hb_.size : w9_.heap.size ≤ w10_.heap.size); have hk_ := Kept.of_below hb_ (fun _ => False); obtain ⟨A30, c31, rfl⟩ := Kd.S_slice h0_; obtain ⟨P32, p1_, p2_, p3_⟩ := hideS (base := w.heap.size) h0_ (szOf (w := w) (by repeat (first | (with_reducible first | exact HB.out | apply xa | apply xn | apply xd) | exact HB.out))); have F29 := xm p1_; have B33 : Aside0 (∀ k_, P32 k_ → w9_.heap.size ≤ k_ ∧ k_ < w10_.heap.size) := xm p2_; have T34 := xm p3_; clear p1_ p2_ p3_; have m0_ := xm (Kd.S_kept (by (with_reducible repeat (first | apply Kd.S_alloc | apply Kd.S_drewN | apply Kd.S_drew)); exact F2.out) hk_ (fun _ _ h_ => h_)); have m1_ := xm (Kd.S_kept (by (with_reducible repeat (first | apply Kd.S_alloc | apply Kd.S_drewN | apply Kd.S_drew)); exact F12.out) hk_ (fun _ _ h_ => h_)); have m2_ := xm (blk_kept (by (with_reducible repeat (first | refine xq ?_ _ | refine xr ?_ | refine xo ?_ _)); exact BKg8.out) hk_ (fun h_ => h_)); have m3_ := xm (blk_kept (by (with_reducible repeat (first | refine xq ?_ _ | refine xr ?_ | refine xo ?_ _)); exact BKg18.out) hk_ (fun h_ => h_)); clear F2 F12 BKg8 BKg18; have F2 := m0_; have F12 := m1_; have BKg8 := m2_; have BKg18 := m3_; clear m0_ m1_ m2_ m3_; have m0_ := xm (below_step (w := w) (by repeat (first | (with_reducible first | exact HB.out | apply xa | apply xn | apply xd) | exact HB.out)) hb_); clear HB; have HB := m0_; clear m0_ hb_ hk_ h0_; (try clear hcg8_0 hfg8_0); have hcg8_0 : w10_.cell? ⟨g8, 0, none⟩ = some (.int .i64 t1_0) := (xc BKg8.out 0).trans rfl; have hfg8_0 := xf BKg8.out 0; (try clear hcg8_1 hfg8_1); have hcg8_1 : w10_.cell? ⟨g8, 1, none⟩ = some (.slice A3 t1_1.length c4) := (xc BKg8.out 1).trans rfl; have hfg8_1 := xf BKg8.out 1; (try clear hcg18_0 hfg18_0); have hcg18_0 : w10_.cell? ⟨g18, 0, none⟩ = some (.int .i64 t11_0) := (xc BKg18.out 0).trans rfl; have hfg18_0 := xf BKg18.out 0; (try clear hcg18_1 hfg18_1); have hcg18_1 : w10_.cell? ⟨g18, 1, none⟩ = some (.slice A13 t11_1.length c14) := (xc BKg18.out 1).trans rfl; have hfg18_1 := xf BKg18.out 1)
  | ((with_reducible refine gate_dst (N := 9) rfl ?_); refine box_event ?hgq36 (N := 9) ?hdq36 (cs := #[.int .i64 0, .slice none 0 0]) (t := 41) ?hrq36 ?_; (case hdq36 => rfl); (case hgq36 => rfl); (case hrq36 => first | (go_simp; done) | (go_simp; rfl)); intro g35 hg_ w11_ hbox_ hb_; have Z11 := xm (hb_.size : w10_.heap.size ≤ w11_.heap.size); have hk_ := Kept.of_below hb_ (fun _ => False); have m0_ := xm (Kd.S_kept (by (with_reducible repeat (first | apply Kd.S_alloc | apply Kd.S_drewN | apply Kd.S_drew)); exact F2.out) hk_ (fun _ _ h_ => h_)); have m1_ := xm (Kd.S_kept (by (with_reducible repeat (first | apply Kd.S_alloc | apply Kd.S_drewN | apply Kd.S_drew)); exact F12.out) hk_ (fun _ _ h_ => h_)); have m2_ := xm (Kd.S_kept (by (with_reducible repeat (first | apply Kd.S_alloc | apply Kd.S_drewN | apply Kd.S_drew)); exact F29.out) hk_ (fun _ _ h_ => h_)); have m3_ := xm (blk_kept (by (with_reducible repeat (first | refine xq ?_ _ | refine xr ?_ | refine xo ?_ _)); exact BKg8.out) hk_ (fun h_ => h_)); have m4_ := xm (blk_kept (by (with_reducible repeat (first | refine xq ?_ _ | refine xr ?_ | refine xo ?_ _)); exact BKg18.out) hk_ (fun h_ => h_)); clear F2 F12 F29 BKg8 BKg18; have F2 := m0_; have F12 := m1_; have F29 := m2_; have BKg8 := m3_; have BKg18 := m4_; clear m0_ m1_ m2_ m3_ m4_; have m0_ := xm (below_step (w := w) (by repeat (first | (with_reducible first | exact HB.out | apply xa | apply xn | apply xd) | exact HB.out)) hb_); clear HB; have HB := m0_; have BKg35 := xm hbox_; have GBg35 : Aside0 (w10_.heap.size ≤ g35 ∧ g35 < w11_.heap.size) := xm ⟨by rw [hg_]; exact Nat.le_refl _, blk_lt hbox_⟩; clear m0_ hb_ hbox_ hg_ hk_; (try clear hcg8_0 hfg8_0); have hcg8_0 : w11_.cell? ⟨g8, 0, none⟩ = some (.int .i64 t1_0) := (xc BKg8.out 0).trans rfl; have hfg8_0 := xf BKg8.out 0; (try clear hcg8_1 hfg8_1); have hcg8_1 : w11_.cell? ⟨g8, 1, none⟩ = some (.slice A3 t1_1.length c4) := (xc BKg8.out 1).trans rfl; have hfg8_1 := xf BKg8.out 1; (try clear hcg18_0 hfg18_0); have hcg18_0 : w11_.cell? ⟨g18, 0, none⟩ = some (.int .i64 t11_0) := (xc BKg18.out 0).trans rfl; have hfg18_0 := xf BKg18.out 0; (try clear hcg18_1 hfg18_1); have hcg18_1 : w11_.cell? ⟨g18, 1, none⟩ = some (.slice A13 t11_1.length c14) := (xc BKg18.out 1).trans rfl; have hfg18_1 := xf BKg18.out 1; (try clear hcg35_0 hfg35_0); have hcg35_0 : w11_.cell? ⟨g35, 0, none⟩ = some (.int .i64 0) := (xc BKg35.out 0).trans rfl; have hfg35_0 := xf BKg35.out 0; (try clear hcg35_1 hfg35_1); have hcg35_1 : w11_.cell? ⟨g35, 1, none⟩ = some (.slice none 0 0) := (xc BKg35.out 1).trans rfl; have hfg35_1 := xf BKg35.out 1)
  | ((with_reducible refine gate_store (t := 41) (p := 9) rfl ?_); refine store_event (t := 41) (p := 9) (v := ?voq37) (w1 := ((w11_.setCell ⟨g35, 0, none⟩ (.int .i64 t28_0)).setCell ⟨g35, 1, none⟩ (.slice A30 t28_1.length c31))) ?hgq37 ?hoq37 ?hnq37 ?hrq37 ?_; (case hoq37 => rfl); (case hgq37 => rfl); (case hnq37 => rfl); (case hrq37 => first | (go_simp; done) | (go_simp; rfl)); intro w12_ hw_; have hk_ : Kept w11_ w12_ (fun k_ => k_ = g35) := (by rw [hw_]; exact kept_box (kept_box (Kept.refl _ _) _ _) _ _); have hx_ : w12_.heap[g35]? = some (.cells #[.int .i64 t28_0, .slice A30 t28_1.length c31] 41 (0, 0)) := (by rw [hw_]; refine blk_put (cs := #[.int .i64 t28_0, .slice none 0 0]) ?_ 1 _ rfl; refine blk_put (cs := #[.int .i64 0, .slice none 0 0]) ?_ 0 _ rfl; exact BKg35.out); have Z12 := xm (hk_.1 : w11_.heap.size ≤ w12_.heap.size); have ge_ : w.heap.size ≤ g35 := (by have := GBg35.out; have := Z1.out; have := Z2.out; have := Z3.out; have := Z4.out; have := Z5.out; have := Z6.out; have := Z7.out; have := Z8.out; have := Z9.out; have := Z10.out; omega); have mb_ : Aside0 (Below w.heap.size w w12_) := xm (by rw [hw_]; exact xt (xt (HB.out) ge_) ge_); have hk2_ := (Kept.mono hk_ (S' := fun k_ => w10_.heap.size ≤ k_ ∧ k_ < w11_.heap.size) (fun k_ h_ => by have h_ : k_ = g35 := h_; subst h_; exact GBg35.out)); have m0_ := xm (Kd.S_kept (by (with_reducible repeat (first | apply Kd.S_alloc | apply Kd.S_drewN | apply Kd.S_drew)); exact F2.out) hk2_ (fun k_ h_ h2_ => by have u1_ := B6.out k_ h_; have u2_ : w10_.heap.size ≤ k_ ∧ k_ < w11_.heap.size := h2_; have := Z2.out; have := Z3.out; have := Z4.out; have := Z5.out; have := Z6.out; have := Z7.out; have := Z8.out; have := Z9.out; have := Z10.out; omega)); have m1_ := xm (Kd.S_kept (by (with_reducible repeat (first | apply Kd.S_alloc | apply Kd.S_drewN | apply Kd.S_drew)); exact F12.out) hk2_ (fun k_ h_ h2_ => by have u1_ := B16.out k_ h_; have u2_ : w10_.heap.size ≤ k_ ∧ k_ < w11_.heap.size := h2_; have := Z5.out; have := Z6.out; have := Z7.out; have := Z8.out; have := Z9.out; have := Z10.out; omega)); have m2_ := xm (Kd.S_kept (by (with_reducible repeat (first | apply Kd.S_alloc | apply Kd.S_drewN | apply Kd.S_drew)); exact F29.out) hk2_ (fun k_ h_ h2_ => by have u1_ := B33.out k_ h_; have u2_ : w10_.heap.size ≤ k_ ∧ k_ < w11_.heap.size := h2_; omega)); have m3_ := xm (blk_kept (by (with_reducible repeat (first | refine xq ?_ _ | refine xr ?_ | refine xo ?_ _)); exact BKg8.out) hk2_ (fun h2_ => by have u1_ := GBg8.out; have u2_ : w10_.heap.size ≤ g8 ∧ g8 < w11_.heap.size := h2_; have := Z3.out; have := Z4.out; have := Z5.out; have := Z6.out; have := Z7.out; have := Z8.out; have := Z9.out; have := Z10.out; omega)); have m4_ := xm (blk_kept (by (with_reducible repeat (first | refine xq ?_ _ | refine xr ?_ | refine xo ?_ _)); exact BKg18.out) hk2_ (fun h2_ => by have u1_ := GBg18.out; have u2_ : w10_.heap.size ≤ g18 ∧ g18 < w11_.heap.size := h2_; have := Z6.out; have := Z7.out; have := Z8.out; have := Z9.out; have := Z10.out; omega)); clear F2 F12 F29 BKg8 BKg18; have F2 := m0_; have F12 := m1_; have F29 := m2_; have BKg8 := m3_; have BKg18 := m4_; clear m0_ m1_ m2_ m3_ m4_; clear HB BKg35; have HB := mb_; have BKg35 := xm hx_; clear mb_ hx_ hk_ hk2_ hw_ ge_; (try clear hcg8_0 hfg8_0); have hcg8_0 : w12_.cell? ⟨g8, 0, none⟩ = some (.int .i64 t1_0) := (xc BKg8.out 0).trans rfl; have hfg8_0 := xf BKg8.out 0; (try clear hcg8_1 hfg8_1); have hcg8_1 : w12_.cell? ⟨g8, 1, none⟩ = some (.slice A3 t1_1.length c4) := (xc BKg8.out 1).trans rfl; have hfg8_1 := xf BKg8.out 1; (try clear hcg18_0 hfg18_0); have hcg18_0 : w12_.cell? ⟨g18, 0, none⟩ = some (.int .i64 t11_0) := (xc BKg18.out 0).trans rfl; have hfg18_0 := xf BKg18.out 0; (try clear hcg18_1 hfg18_1); have hcg18_1 : w12_.cell? ⟨g18, 1, none⟩ = some (.slice A13 t11_1.length c14) := (xc BKg18.out 1).trans rfl; have hfg18_1 := xf BKg18.out 1; (try clear hcg35_0 hfg35_0); have hcg35_0 : w12_.cell? ⟨g35, 0, none⟩ = some (.int .i64 t28_0) := (xc BKg35.out 0).trans rfl; have hfg35_0 := xf BKg35.out 0; (try clear hcg35_1 hfg35_1); have hcg35_1 : w12_.cell? ⟨g35, 1, none⟩ = some (.slice A30 t28_1.length c31) := (xc BKg35.out 1).trans rfl; have hfg35_1 := xf BKg35.out 1)
  | ((with_reducible refine gate_callee (f := 32) rfl ?_); refine goesL_ (some 48) rfl rfl Try.func32 (by kernel_rfl) rfl #[.agg #[.int .i64 t28_0, .slice A30 t28_1.length c31], .agg #[.int .i64 t1_0, .slice A3 t1_1.length c4]] rfl (by (try simp only [List.map_toArray, List.map_cons, List.map_nil]); first | done | rfl) ?_; refine (laws_eqTable.calls k t28_0 _ _ t28_1 t1_0 _ _ t1_1 true _ (by repeat (first | exact (Kd.S_reads' F29.out).2.2 | (with_reducible refine Kd.C_alloc ?_ _) | (with_reducible refine Kd.C_drewN ?_ _) | (with_reducible refine Kd.C_drew ?_))) (Kd.S_reads' F29.out).2.1 (by repeat (first | exact (Kd.S_reads' F2.out).2.2 | (with_reducible refine Kd.C_alloc ?_ _) | (with_reducible refine Kd.C_drewN ?_ _) | (with_reducible refine Kd.C_drew ?_))) (Kd.S_reads' F2.out).2.1 t38A.out).mono ?_; rintro e w13_ ⟨rfl, hb_⟩; refine ⟨_, rfl, ?_⟩; have Z13 := xm (hb_.size : w12_.heap.size ≤ w13_.heap.size); have hk_ := Kept.of_below hb_ (fun _ => False); have m0_ := xm (Kd.S_kept (by (with_reducible repeat (first | apply Kd.S_alloc | apply Kd.S_drewN | apply Kd.S_drew)); exact F2.out) hk_ (fun _ _ h_ => h_)); have m1_ := xm (Kd.S_kept (by (with_reducible repeat (first | apply Kd.S_alloc | apply Kd.S_drewN | apply Kd.S_drew)); exact F12.out) hk_ (fun _ _ h_ => h_)); have m2_ := xm (Kd.S_kept (by (with_reducible repeat (first | apply Kd.S_alloc | apply Kd.S_drewN | apply Kd.S_drew)); exact F29.out) hk_ (fun _ _ h_ => h_)); have m3_ := xm (blk_kept (by (with_reducible repeat (first | refine xq ?_ _ | refine xr ?_ | refine xo ?_ _)); exact BKg8.out) hk_ (fun h_ => h_)); have m4_ := xm (blk_kept (by (with_reducible repeat (first | refine xq ?_ _ | refine xr ?_ | refine xo ?_ _)); exact BKg18.out) hk_ (fun h_ => h_)); have m5_ := xm (blk_kept (by (with_reducible repeat (first | refine xq ?_ _ | refine xr ?_ | refine xo ?_ _)); exact BKg35.out) hk_ (fun h_ => h_)); clear F2 F12 F29 BKg8 BKg18 BKg35; have F2 := m0_; have F12 := m1_; have F29 := m2_; have BKg8 := m3_; have BKg18 := m4_; have BKg35 := m5_; clear m0_ m1_ m2_ m3_ m4_ m5_; have m0_ := xm (below_step (w := w) (by repeat (first | (with_reducible first | exact HB.out | apply xa | apply xn | apply xd) | exact HB.out)) hb_); clear HB; have HB := m0_; clear m0_ hb_ hk_; (try clear hcg8_0 hfg8_0); have hcg8_0 : w13_.cell? ⟨g8, 0, none⟩ = some (.int .i64 t1_0) := (xc BKg8.out 0).trans rfl; have hfg8_0 := xf BKg8.out 0; (try clear hcg8_1 hfg8_1); have hcg8_1 : w13_.cell? ⟨g8, 1, none⟩ = some (.slice A3 t1_1.length c4) := (xc BKg8.out 1).trans rfl; have hfg8_1 := xf BKg8.out 1; (try clear hcg18_0 hfg18_0); have hcg18_0 : w13_.cell? ⟨g18, 0, none⟩ = some (.int .i64 t11_0) := (xc BKg18.out 0).trans rfl; have hfg18_0 := xf BKg18.out 0; (try clear hcg18_1 hfg18_1); have hcg18_1 : w13_.cell? ⟨g18, 1, none⟩ = some (.slice A13 t11_1.length c14) := (xc BKg18.out 1).trans rfl; have hfg18_1 := xf BKg18.out 1; (try clear hcg35_0 hfg35_0); have hcg35_0 : w13_.cell? ⟨g35, 0, none⟩ = some (.int .i64 t28_0) := (xc BKg35.out 0).trans rfl; have hfg35_0 := xf BKg35.out 0; (try clear hcg35_1 hfg35_1); have hcg35_1 : w13_.cell? ⟨g35, 1, none⟩ = some (.slice A30 t28_1.length c31) := (xc BKg35.out 1).trans rfl; have hfg35_1 := xf BKg35.out 1)
  | ((with_reducible refine gate_callee (f := 34) rfl ?_); refine goesL_ (some 57) rfl rfl Try.func34 (by kernel_rfl) rfl #[.agg #[.int .i64 t11_0, .slice A13 t11_1.length c14], .int .i64 1] rfl (by (try simp only [List.map_toArray, List.map_cons, List.map_nil]); first | done | rfl) ?_; refine calls_of_args (args' := #[.agg #[.int .i64 t11_0, .slice A13 t24_1.length c14], .int .i64 1]) (by simp only [LEF12.out]) ?_; refine (laws_heldTable.calls k t11_0 _ _ t24_1 1 t41_0 _ (by repeat (first | exact (Kd.S_reads' F12.out).2.2 | (with_reducible refine Kd.C_alloc ?_ _) | (with_reducible refine Kd.C_drewN ?_ _) | (with_reducible refine Kd.C_drew ?_))) (by have z_ := Kd.S_reads' F12.out; have y_ := z_.1; have x_ := z_.2.1; omega) t41A.out).mono ?_; rintro e w14_ ⟨rfl, hb_⟩; refine ⟨_, rfl, ?_⟩; have Z14 := xm (hb_.size : w13_.heap.size ≤ w14_.heap.size); have hk_ := Kept.of_below hb_ (fun _ => False); have m0_ := xm (Kd.S_kept (by (with_reducible repeat (first | apply Kd.S_alloc | apply Kd.S_drewN | apply Kd.S_drew)); exact F2.out) hk_ (fun _ _ h_ => h_)); have m1_ := xm (Kd.S_kept (by (with_reducible repeat (first | apply Kd.S_alloc | apply Kd.S_drewN | apply Kd.S_drew)); exact F12.out) hk_ (fun _ _ h_ => h_)); have m2_ := xm (Kd.S_kept (by (with_reducible repeat (first | apply Kd.S_alloc | apply Kd.S_drewN | apply Kd.S_drew)); exact F29.out) hk_ (fun _ _ h_ => h_)); have m3_ := xm (blk_kept (by (with_reducible repeat (first | refine xq ?_ _ | refine xr ?_ | refine xo ?_ _)); exact BKg8.out) hk_ (fun h_ => h_)); have m4_ := xm (blk_kept (by (with_reducible repeat (first | refine xq ?_ _ | refine xr ?_ | refine xo ?_ _)); exact BKg18.out) hk_ (fun h_ => h_)); have m5_ := xm (blk_kept (by (with_reducible repeat (first | refine xq ?_ _ | refine xr ?_ | refine xo ?_ _)); exact BKg35.out) hk_ (fun h_ => h_)); clear F2 F12 F29 BKg8 BKg18 BKg35; have F2 := m0_; have F12 := m1_; have F29 := m2_; have BKg8 := m3_; have BKg18 := m4_; have BKg35 := m5_; clear m0_ m1_ m2_ m3_ m4_ m5_; have m0_ := xm (below_step (w := w) (by repeat (first | (with_reducible first | exact HB.out | apply xa | apply xn | apply xd) | exact HB.out)) hb_); clear HB; have HB := m0_; clear m0_ hb_ hk_; (try clear hcg8_0 hfg8_0); have hcg8_0 : w14_.cell? ⟨g8, 0, none⟩ = some (.int .i64 t1_0) := (xc BKg8.out 0).trans rfl; have hfg8_0 := xf BKg8.out 0; (try clear hcg8_1 hfg8_1); have hcg8_1 : w14_.cell? ⟨g8, 1, none⟩ = some (.slice A3 t1_1.length c4) := (xc BKg8.out 1).trans rfl; have hfg8_1 := xf BKg8.out 1; (try clear hcg18_0 hfg18_0); have hcg18_0 : w14_.cell? ⟨g18, 0, none⟩ = some (.int .i64 t11_0) := (xc BKg18.out 0).trans rfl; have hfg18_0 := xf BKg18.out 0; (try clear hcg18_1 hfg18_1); have hcg18_1 : w14_.cell? ⟨g18, 1, none⟩ = some (.slice A13 t11_1.length c14) := (xc BKg18.out 1).trans rfl; have hfg18_1 := xf BKg18.out 1; (try clear hcg35_0 hfg35_0); have hcg35_0 : w14_.cell? ⟨g35, 0, none⟩ = some (.int .i64 t28_0) := (xc BKg35.out 0).trans rfl; have hfg35_0 := xf BKg35.out 0; (try clear hcg35_1 hfg35_1); have hcg35_1 : w14_.cell? ⟨g35, 1, none⟩ = some (.slice A30 t28_1.length c31) := (xc BKg35.out 1).trans rfl; have hfg35_1 := xf BKg35.out 1))
 go_wp2
 go_ret
 exact ⟨by first | rfl | (simp [errW_none, errW_some] <;> rfl) | (simp [*, errW_none, errW_some] <;> rfl), HB.out⟩

/-- THE ONE PURE STATEMENT of laws_FnExactEmptyTable. -/
def laws_FnExactEmptyTable.Pure : Prop := ∀ x0 : Int, (-9223372036854775808 ≤ x0 ∧ x0 ≤ 9223372036854775807) → ∃ k, laws_FnExactEmptyTable.f k x0 = some true

end Go.Proofs.Ytcbikaoackbbjaa.G
