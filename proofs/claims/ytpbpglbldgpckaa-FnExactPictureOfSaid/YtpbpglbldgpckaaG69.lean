/- Written by a program of this claim's own, out of the translation: functions of the program as plain functions, and that the calls answer as these. No conditions. -/
import Derived.Test.YtpbpglbldgpckaaG0
import Derived.Test.YtpbpglbldgpckaaG46
import Derived.Test.YtpbpglbldgpckaaG49
import Derived.Test.YtpbpglbldgpckaaG50
import Derived.Test.YtpbpglbldgpckaaG52
import Derived.Test.YtpbpglbldgpckaaG68
namespace Go.Proofs.Ytpbpglbldgpckaa.G
open Go.RowKit Go.Proofs.Ytpbpglbldgpckaa.X Go.Proofs.YtpbpglbldgpckaaW.PrintWords Go.Proofs.YtpbpglbldgpckaaW.PrintLast Go.Proofs.YtpbpglbldgpckaaW.PrintMore
attribute [local go_sem] max2_int min2_int max_two min_two max_three min_three max_four min_four   -- for this text's walks alone
set_option linter.unusedVariables false
set_option linter.unusedSimpArgs false

/-! ### impl_Snap_picture: function 142 -/
mutual
def impl_Snap_picture.l0 : Nat → Int → List (S138) → Int → Int → List (S138) → List (S140) → Option (Int × Bool)
 | 0, _, _, _, _, _, _ => none
 | k + 1, x4, x10, x11, x12, x1348000, x1348001 => if x12 < x11 then (if 0 ≤ x12 then (if x12 < (x10.length : Int) then (if ((rd_T138 x10 x12).f2 = true) then (impl_Snap_picture.l0 k (wrap64 (x4 + ((rd_T138 x10 x12).f1))) x10 x11 (wrap64 (x12 + 1)) x1348000 x1348001) else (some (0, false))) else (none)) else (none)) else (impl_Snap_picture.l1 k x4 x1348001 (x1348001.length : Int) 0)
def impl_Snap_picture.l1 : Nat → Int → List (S140) → Int → Int → Option (Int × Bool)
 | 0, _, _, _, _ => none
 | k + 1, x4, x25, x26, x27 => if x27 < x26 then (if 0 ≤ x27 then (if x27 < (x25.length : Int) then (if (rd_T140 x25 x27).f2 = true then (some (0, false)) else ((impl_sumOf.f k ((rd_T140 x25 x27).f1)).bind fun t1352 => (impl_Snap_picture.l1 k (wrap64 (x4 + t1352)) x25 x26 (wrap64 (x27 + 1))))) else (none)) else (none)) else (some (x4, true))
end
def impl_Snap_picture.f (k : Nat) (l0_0 : List (S138)) (l0_1 : List (S140)) : Option (Int × Bool) := impl_Snap_picture.l0 k 0 l0_0 (l0_0.length : Int) 0 l0_0 l0_1
theorem impl_Snap_picture.mono_l : ∀ k, (∀ y0 y1 y2 y3 y4 y5, LeO (impl_Snap_picture.l0 k y0 y1 y2 y3 y4 y5) (impl_Snap_picture.l0 (k + 1) y0 y1 y2 y3 y4 y5)) ∧ (∀ y0 y1 y2 y3, LeO (impl_Snap_picture.l1 k y0 y1 y2 y3) (impl_Snap_picture.l1 (k + 1) y0 y1 y2 y3))
 | 0 => ⟨fun _ _ _ _ _ _ r h => by simp [impl_Snap_picture.l0] at h, fun _ _ _ _ r h => by simp [impl_Snap_picture.l1] at h⟩
 | k + 1 => by
  obtain ⟨ih0, ih1⟩ := impl_Snap_picture.mono_l k
  refine ⟨?_, ?_⟩
  ·intro y0 y1 y2 y3 y4 y5
   unfold impl_Snap_picture.l0
   repeat' first
   | (with_reducible exact ih0 _ _ _ _ _ _)
   | (with_reducible exact ih1 _ _ _ _)
   | (with_reducible exact impl_sumOf.mono _ _)
   | (with_reducible exact LeO.refl _)
   | (with_reducible exact LeO.none _)
   | (with_reducible refine LeO.ite ?_ ?_)
   | (with_reducible refine LeO.bind ?_ (fun _ => ?_))
   | exact ih0 _ _ _ _ _ _
   | exact ih1 _ _ _ _
   | exact impl_sumOf.mono _ _
   | exact LeO.none _
   | refine LeO.ite ?_ ?_
   | refine LeO.bind ?_ (fun _ => ?_)
  ·intro y0 y1 y2 y3
   unfold impl_Snap_picture.l1
   repeat' first
   | (with_reducible exact ih0 _ _ _ _ _ _)
   | (with_reducible exact ih1 _ _ _ _)
   | (with_reducible exact impl_sumOf.mono _ _)
   | (with_reducible exact LeO.refl _)
   | (with_reducible exact LeO.none _)
   | (with_reducible refine LeO.ite ?_ ?_)
   | (with_reducible refine LeO.bind ?_ (fun _ => ?_))
   | exact ih0 _ _ _ _ _ _
   | exact ih1 _ _ _ _
   | exact impl_sumOf.mono _ _
   | exact LeO.none _
   | refine LeO.ite ?_ ?_
   | refine LeO.bind ?_ (fun _ => ?_)
theorem impl_Snap_picture.mono : ∀ a0 a1 k, LeO (impl_Snap_picture.f k a0 a1) (impl_Snap_picture.f (k + 1) a0 a1) := by
 intro a0 a1 k
 obtain ⟨ih0, ih1⟩ := impl_Snap_picture.mono_l k
 unfold impl_Snap_picture.f
 repeat' first
   | (with_reducible exact ih0 _ _ _ _ _ _)
   | (with_reducible exact ih1 _ _ _ _)
   | (with_reducible exact impl_sumOf.mono _ _)
   | (with_reducible exact LeO.refl _)
   | (with_reducible exact LeO.none _)
   | (with_reducible refine LeO.ite ?_ ?_)
   | (with_reducible refine LeO.bind ?_ (fun _ => ?_))
   | exact ih0 _ _ _ _ _ _
   | exact ih1 _ _ _ _
   | exact impl_sumOf.mono _ _
   | exact LeO.none _
   | refine LeO.ite ?_ ?_
   | refine LeO.bind ?_ (fun _ => ?_)
set_option maxHeartbeats 8000000 in
set_option maxRecDepth 100000 in
theorem impl_Snap_picture.calls (k : Nat) (A0_0 : Option Addr) (c0_0 : Nat) (l0_0 : List (S138)) (A0_1 : Option Addr) (c0_1 : Nat) (l0_1 : List (S140)) (r1 : Int) (r2 : Bool) (w : World) (hr0_0 : Kd.C k138 w A0_0 l0_0.length l0_0) (hc0_0 : l0_0.length ≤ c0_0) (hr0_1 : Kd.C k140 w A0_1 l0_1.length l0_1) (hc0_1 : l0_1.length ≤ c0_1) (h : impl_Snap_picture.f k l0_0 l0_1 = some (r1, r2)) :
  Calls Try.prog 142 #[.agg #[.slice A0_0 l0_0.length c0_0, .slice A0_1 l0_1.length c0_1]] w fun e w' => e = .returned (.tuple #[.int .i64 r1, .bool r2]) ∧ Below w.heap.size w w' := by
 have hu85 := Try.underlying85
 have hu138 := Try.underlying138
 have hu140 := Try.underlying140
 have HR0_0 := xm hr0_0
 have HC0_0 := xm hc0_0
 clear hr0_0 hc0_0
 have HR0_1 := xm hr0_1
 have HC0_1 := xm hc0_1
 clear hr0_1 hc0_1
 have HB := xm (Below.refl w.heap.size w)
 have H : (impl_Snap_picture.l0 k 0 l0_0 (l0_0.length : Int) 0 l0_0 l0_1) = some (r1, r2) := h
 clear h
 have H' := xm H
 clear H
 go_enter Try.func142, Try.ntmps142
 go_wp2_with (first | ((with_reducible refine gate_dst (N := 1) rfl ?_); refine box_event ?hg (N := 1) ?hd (cs := #[.slice A0_0 l0_0.length c0_0, .slice A0_1 l0_1.length c0_1]) (t := 85) ?hr ?_; (case hd => rfl); (case hg => rfl); (case hr => first | (go_simp; done) | (go_simp; rfl)); intro gb1347 hg w2 hbox hb; have n0_ := xm (below_step (by repeat (first | (with_reducible first | exact HB.out | apply xa | apply xn | apply xd) | exact HB.out)) hb); have n1_ := xm (hbox); have n2_ := xm ((by rw [hg]; exact (xz (by repeat (first | (with_reducible first | exact HB.out | apply xa | apply xn | apply xd) | exact HB.out))) : w.heap.size ≤ gb1347)); have n3_ := xm ((by rw [hg]; exact (xz (by repeat (first | (with_reducible first | exact HB.out | apply xa | apply xn | apply xd) | exact HB.out))) : w.heap.size ≤ gb1347)); clear HB; have HB := n0_; have BK1347 := n1_; have GW1347 := n2_; have GE1347 := n3_; clear n0_ n1_ n2_ n3_; clear hb hbox hg; have hcz3_0 : w2.cell? ⟨gb1347, 0, none⟩ = some (.slice A0_0 l0_0.length c0_0) := (xc BK1347.out 0).trans rfl; have hcz3_1 : w2.cell? ⟨gb1347, 1, none⟩ = some (.slice A0_1 l0_1.length c0_1) := (xc BK1347.out 1).trans rfl; have hfz3_0 := xf BK1347.out 0; have hfz3_1 := xf BK1347.out 1))
 go_loopg [4, 12] k (fun kq v4 v12 w' => ∃ (x4_1 : Int) (x12_1 : Int), v4 = .int .i64 x4_1 ∧ v12 = .int .i64 x12_1 ∧ Aside0 (impl_Snap_picture.l0 kq x4_1 l0_0 (l0_0.length : Int) x12_1 l0_0 l0_1 = some (r1, r2)) ∧ Aside0 (kq ≤ k) ∧ Aside0 (w'.heap[gb1347]? = some (.cells #[(.slice A0_0 l0_0.length c0_0), (.slice A0_1 l0_1.length c0_1)] 85 (0, 0))) ∧ Aside0 (Below w.heap.size w w'))
 case atStart => exact ⟨(0), (0), (by first | rfl | (simp; done) | (simp [*]; done)), (by first | rfl | (simp; done) | (simp [*]; done)), H', ⟨Nat.le_refl _⟩, ⟨by (with_reducible repeat (first | refine xq ?_ _ | refine xr ?_ | refine xo ?_ _)); exact BK1347.out⟩, ⟨by repeat (first | (with_reducible first | exact HB.out | apply xa | apply xn | apply xd | refine xt ?_ GE1347.out) | exact HB.out)⟩⟩
 case round =>
  clear H'
  try clear c1
  try clear p2
  try clear hcz3_0
  try clear hcz3_1
  try clear hfz3_0
  try clear hfz3_1
  obtain ⟨x4_1, x12_1, rfl, rfl, HA, HK1, BK1347, HB⟩ := hrel
  cases gk with
  | zero => exact absurd HA.out (by simp [impl_Snap_picture.l0])
  | succ k1 =>
   have H := HA.out
   clear HA
   simp only [impl_Snap_picture.l0] at H
   by_cases c4 : x12_1 < (l0_0.length : Int)
   ·rw [if_pos c4] at H
    have c4b0 : decide (x12_1 < (l0_0.length : Int)) = true := decide_eq_true c4
    clear c4
    by_cases c5 : 0 ≤ x12_1
    ·rw [if_pos c5] at H
     have c5b0 : decide (0 ≤ x12_1) = true := decide_eq_true c5
     clear c5
     by_cases c6 : x12_1 < (l0_0.length : Int)
     ·rw [if_pos c6] at H
      have c6b0 : decide (x12_1 < (l0_0.length : Int)) = true := decide_eq_true c6
      clear c6
      obtain ⟨bq7, hbq7⟩ : ∃ b_ : Bool, b_ = ((rd_T138 l0_0 x12_1).f2) := ⟨_, rfl⟩
      replace H : (if (bq7 = true) then (impl_Snap_picture.l0 k1 (wrap64 (x4_1 + ((rd_T138 l0_0 x12_1).f1))) l0_0 (l0_0.length : Int) (wrap64 (x12_1 + 1)) l0_0 l0_1) else (some (0, false))) = some (r1, r2) := by rw [← hbq7] at H; exact H
      have Nbq7 := xm hbq7
      clear hbq7
      by_cases c8 : (bq7 = true)
      ·subst c8
       have H1 : (impl_Snap_picture.l0 k1 (wrap64 (x4_1 + ((rd_T138 l0_0 x12_1).f1))) l0_0 (l0_0.length : Int) (wrap64 (x12_1 + 1)) l0_0 l0_1) = some (r1, r2) := by first | (with_reducible rfl) | (rw [if_pos rfl] at H; exact H)
       clear H
       have H := H1
       clear H1
       have H' := xm H
       clear H
       have p1348 : 0 ≤ (x12_1 : Int) := of_decide_eq_true (by first | (with_reducible assumption) | assumption)
       have q1348 : x12_1 < (l0_0.length : Int) := of_decide_eq_true (by first | (with_reducible assumption) | assumption)
       obtain ⟨ad1348, e1348, hx1348_0, hx1348_1, hx1348_2⟩ := at_T138 HR0_0.out x12_1 p1348 q1348
       (try rw [← Nbq7.out] at hx1348_2)
       cases e1348
       replace hx1348_0 := (HB.out.cell (World.block_lt_of_cell? w _ hx1348_0)).trans hx1348_0
       replace hx1348_1 := (HB.out.cell (World.block_lt_of_cell? w _ hx1348_1)).trans hx1348_1
       replace hx1348_2 := (HB.out.cell (World.block_lt_of_cell? w _ hx1348_2)).trans hx1348_2
       replace p1348 := eq_true p1348
       replace q1348 := eq_true q1348
       go_wp2_with (first | ((with_reducible refine gate_dst (N := 6) rfl ?_); refine box_event ?hg (N := 6) ?hd (cs := #[.int .i64 0, .int .i64 0, .bool false]) (t := 138) ?hr ?_; (case hd => rfl); (case hg => rfl); (case hr => first | (go_simp; done) | (go_simp; rfl)); intro gb1349 hg w9 hbox hb; have n0_ := xm (blk_below (g := gb1347) (o := .cells #[.slice (some ad1348) l0_0.length c0_0, .slice A0_1 l0_1.length c0_1] 85 (0, 0)) (by (with_reducible repeat (first | refine xq ?_ _ | refine xr ?_ | refine xo ?_ _)); exact BK1347.out) hb); have n1_ := xm (below_step (by repeat (first | (with_reducible first | exact HB.out | apply xa | apply xn | apply xd | refine xt ?_ GE1347.out) | exact HB.out)) hb); have n2_ := xm (hbox); have n3_ := xm ((by rw [hg]; exact (xz (by repeat (first | (with_reducible first | exact HB.out | apply xa | apply xn | apply xd | refine xt ?_ GE1347.out) | exact HB.out))) : w.heap.size ≤ gb1349)); have n4_ := xm ((by rw [hg]; exact (xz (by repeat (first | (with_reducible first | exact HB.out | apply xa | apply xn | apply xd | refine xt ?_ GE1347.out) | exact HB.out))) : w.heap.size ≤ gb1349)); have n5_ := xm ((by rw [hg]; exact Nat.ne_of_lt (blk_lt (g := gb1347) (o := .cells #[.slice (some ad1348) l0_0.length c0_0, .slice A0_1 l0_1.length c0_1] 85 (0, 0)) (by (with_reducible repeat (first | refine xq ?_ _ | refine xr ?_ | refine xo ?_ _)); exact BK1347.out)) : gb1347 ≠ gb1349)); have n6_ := xm ((by rw [hg]; exact Nat.ne_of_gt (blk_lt (g := gb1347) (o := .cells #[.slice (some ad1348) l0_0.length c0_0, .slice A0_1 l0_1.length c0_1] 85 (0, 0)) (by (with_reducible repeat (first | refine xq ?_ _ | refine xr ?_ | refine xo ?_ _)); exact BK1347.out)) : gb1349 ≠ gb1347)); clear BK1347; clear HB; have BK1347 := n0_; have HB := n1_; have BK1349 := n2_; have GW1349 := n3_; have GE1349 := n4_; have NB1347_1349 := n5_; have NB1349_1347 := n6_; clear n0_ n1_ n2_ n3_ n4_ n5_ n6_; clear hb hbox hg; have hnb10 := NB1349_1347.out; have hnc10 := NB1347_1349.out; have hcz11_0 : w9.cell? ⟨gb1349, 0, none⟩ = some (.int .i64 0) := (xc BK1349.out 0).trans rfl; have hcz11_1 : w9.cell? ⟨gb1349, 1, none⟩ = some (.int .i64 0) := (xc BK1349.out 1).trans rfl; have hcz11_2 : w9.cell? ⟨gb1349, 2, none⟩ = some (.bool false) := (xc BK1349.out 2).trans rfl; have hfz11_0 := xf BK1349.out 0; have hfz11_1 := xf BK1349.out 1; have hfz11_2 := xf BK1349.out 2))
       go_roundg k1
       case measure => have := HK1.out; omega
       case rel => (try rw [← Nbq7.out]); exact ⟨(wrap64 (x4_1 + ((rd_T138 l0_0 x12_1).f1))), (wrap64 (x12_1 + 1)), (by first | rfl | (simp; done) | (simp [*]; done)), (by first | rfl | (simp; done) | (simp [*]; done)), H', ⟨by have := HK1.out; omega⟩, ⟨by (with_reducible repeat (first | refine xq ?_ _ | refine xr ?_ | refine xo ?_ _)); refine blk_far ?_ NB1347_1349.out _; (with_reducible repeat (first | refine xq ?_ _ | refine xr ?_ | refine xo ?_ _)); refine blk_far ?_ NB1347_1349.out _; (with_reducible repeat (first | refine xq ?_ _ | refine xr ?_ | refine xo ?_ _)); refine blk_far ?_ NB1347_1349.out _; (with_reducible repeat (first | refine xq ?_ _ | refine xr ?_ | refine xo ?_ _)); exact BK1347.out⟩, ⟨by repeat (first | (with_reducible first | exact HB.out | apply xa | apply xn | apply xd | refine xt ?_ GE1347.out | refine xt ?_ GE1349.out) | exact HB.out)⟩⟩
      ·replace c8 := Bool.eq_false_iff.mpr c8
       subst c8
       have H1 : (some (0, false)) = some (r1, r2) := by first | (with_reducible rfl) | (rw [if_neg (show ¬ (false = true) by decide)] at H; exact H)
       clear H
       have H := H1
       clear H1
       simp only [Option.some.injEq, Prod.mk.injEq] at H
       obtain ⟨rfl, rfl⟩ := H
       have p1348 : 0 ≤ (x12_1 : Int) := of_decide_eq_true (by first | (with_reducible assumption) | assumption)
       have q1348 : x12_1 < (l0_0.length : Int) := of_decide_eq_true (by first | (with_reducible assumption) | assumption)
       obtain ⟨ad1348, e1348, hx1348_0, hx1348_1, hx1348_2⟩ := at_T138 HR0_0.out x12_1 p1348 q1348
       (try rw [← Nbq7.out] at hx1348_2)
       cases e1348
       replace hx1348_0 := (HB.out.cell (World.block_lt_of_cell? w _ hx1348_0)).trans hx1348_0
       replace hx1348_1 := (HB.out.cell (World.block_lt_of_cell? w _ hx1348_1)).trans hx1348_1
       replace hx1348_2 := (HB.out.cell (World.block_lt_of_cell? w _ hx1348_2)).trans hx1348_2
       replace p1348 := eq_true p1348
       replace q1348 := eq_true q1348
       go_wp2_with (first | ((with_reducible refine gate_dst (N := 6) rfl ?_); refine box_event ?hg (N := 6) ?hd (cs := #[.int .i64 0, .int .i64 0, .bool false]) (t := 138) ?hr ?_; (case hd => rfl); (case hg => rfl); (case hr => first | (go_simp; done) | (go_simp; rfl)); intro gb1349 hg w12 hbox hb; have n0_ := xm (blk_below (g := gb1347) (o := .cells #[.slice (some ad1348) l0_0.length c0_0, .slice A0_1 l0_1.length c0_1] 85 (0, 0)) (by (with_reducible repeat (first | refine xq ?_ _ | refine xr ?_ | refine xo ?_ _)); exact BK1347.out) hb); have n1_ := xm (below_step (by repeat (first | (with_reducible first | exact HB.out | apply xa | apply xn | apply xd | refine xt ?_ GE1347.out) | exact HB.out)) hb); have n2_ := xm (hbox); have n3_ := xm ((by rw [hg]; exact (xz (by repeat (first | (with_reducible first | exact HB.out | apply xa | apply xn | apply xd | refine xt ?_ GE1347.out) | exact HB.out))) : w.heap.size ≤ gb1349)); have n4_ := xm ((by rw [hg]; exact (xz (by repeat (first | (with_reducible first | exact HB.out | apply xa | apply xn | apply xd | refine xt ?_ GE1347.out) | exact HB.out))) : w.heap.size ≤ gb1349)); have n5_ := xm ((by rw [hg]; exact Nat.ne_of_lt (blk_lt (g := gb1347) (o := .cells #[.slice (some ad1348) l0_0.length c0_0, .slice A0_1 l0_1.length c0_1] 85 (0, 0)) (by (with_reducible repeat (first | refine xq ?_ _ | refine xr ?_ | refine xo ?_ _)); exact BK1347.out)) : gb1347 ≠ gb1349)); have n6_ := xm ((by rw [hg]; exact Nat.ne_of_gt (blk_lt (g := gb1347) (o := .cells #[.slice (some ad1348) l0_0.length c0_0, .slice A0_1 l0_1.length c0_1] 85 (0, 0)) (by (with_reducible repeat (first | refine xq ?_ _ | refine xr ?_ | refine xo ?_ _)); exact BK1347.out)) : gb1349 ≠ gb1347)); clear BK1347; clear HB; have BK1347 := n0_; have HB := n1_; have BK1349 := n2_; have GW1349 := n3_; have GE1349 := n4_; have NB1347_1349 := n5_; have NB1349_1347 := n6_; clear n0_ n1_ n2_ n3_ n4_ n5_ n6_; clear hb hbox hg; have hnb13 := NB1349_1347.out; have hnc13 := NB1347_1349.out; have hcz14_0 : w12.cell? ⟨gb1349, 0, none⟩ = some (.int .i64 0) := (xc BK1349.out 0).trans rfl; have hcz14_1 : w12.cell? ⟨gb1349, 1, none⟩ = some (.int .i64 0) := (xc BK1349.out 1).trans rfl; have hcz14_2 : w12.cell? ⟨gb1349, 2, none⟩ = some (.bool false) := (xc BK1349.out 2).trans rfl; have hfz14_0 := xf BK1349.out 0; have hfz14_1 := xf BK1349.out 1; have hfz14_2 := xf BK1349.out 2))
       go_ret2
       exact ⟨by first | rfl | (simp [errW_none, errW_some] <;> rfl) | (simp [*, errW_none, errW_some] <;> rfl), by repeat (first | (with_reducible first | exact HB.out | apply xa | apply xn | apply xd | refine xt ?_ GE1347.out | refine xt ?_ GE1349.out) | exact HB.out)⟩
     ·rw [if_neg c6] at H
      exact absurd H (by simp)
    ·rw [if_neg c5] at H
     exact absurd H (by simp)
   ·rw [if_neg c4] at H
    have c4b0 : decide (x12_1 < (l0_0.length : Int)) = false := decide_eq_false c4
    clear c4
    have H' := xm H
    clear H
    have hcz15_0 : wr.cell? ⟨gb1347, 0, none⟩ = some (.slice A0_0 l0_0.length c0_0) := (xc BK1347.out 0).trans rfl
    have hcz15_1 : wr.cell? ⟨gb1347, 1, none⟩ = some (.slice A0_1 l0_1.length c0_1) := (xc BK1347.out 1).trans rfl
    have hfz15_0 := xf BK1347.out 0
    have hfz15_1 := xf BK1347.out 1
    go_wp2
    go_loopg [4, 27] k1 (fun kq v4 v27 w' => ∃ (x4_2 : Int) (x27_2 : Int), v4 = .int .i64 x4_2 ∧ v27 = .int .i64 x27_2 ∧ Aside0 (impl_Snap_picture.l1 kq x4_2 l0_1 (l0_1.length : Int) x27_2 = some (r1, r2)) ∧ Aside0 (kq ≤ k1) ∧ Aside0 (w'.heap[gb1347]? = some (.cells #[(.slice A0_0 l0_0.length c0_0), (.slice A0_1 l0_1.length c0_1)] 85 (0, 0))) ∧ Aside0 (Below w.heap.size w w'))
    case atStart => exact ⟨(x4_1), (0), (by first | rfl | (simp; done) | (simp [*]; done)), (by first | rfl | (simp; done) | (simp [*]; done)), H', ⟨Nat.le_refl _⟩, ⟨by (with_reducible repeat (first | refine xq ?_ _ | refine xr ?_ | refine xo ?_ _)); exact BK1347.out⟩, ⟨by repeat (first | (with_reducible first | exact HB.out | apply xa | apply xn | apply xd | refine xt ?_ GE1347.out) | exact HB.out)⟩⟩
    case round =>
     clear H'
     try clear c1
     try clear p1
     try clear q1
     try clear hx1
     try clear p2
     try clear c4
     try clear c4b0
     try clear c5
     try clear c5b0
     try clear c6
     try clear c6b0
     try clear p6
     try clear q7
     try clear c8
     try clear c10
     try clear c13
     try clear p13
     try clear q13
     try clear hx13
     try clear c14
     try clear hcz11_0
     try clear hcz11_1
     try clear hcz11_2
     try clear hcz14_0
     try clear hcz14_1
     try clear hcz14_2
     try clear hcz15_0
     try clear hcz15_1
     try clear hcz3_0
     try clear hcz3_1
     try clear hfz11_0
     try clear hfz11_1
     try clear hfz11_2
     try clear hfz14_0
     try clear hfz14_1
     try clear hfz14_2
     try clear hfz15_0
     try clear hfz15_1
     try clear hfz3_0
     try clear hfz3_1
     try clear hx1348_0
     try clear hx1348_1
     try clear hx1348_2
     try clear p1348
     try clear p2
     try clear q1348
     obtain ⟨x4_2, x27_2, rfl, rfl, HA, HK2, BK1347, HB⟩ := hrel
     cases gk with
     | zero => exact absurd HA.out (by simp [impl_Snap_picture.l1])
     | succ k2 =>
      have H := HA.out
      clear HA
      simp only [impl_Snap_picture.l1] at H
      by_cases c16 : x27_2 < (l0_1.length : Int)
      ·rw [if_pos c16] at H
       have c16b0 : decide (x27_2 < (l0_1.length : Int)) = true := decide_eq_true c16
       clear c16
       by_cases c17 : 0 ≤ x27_2
       ·rw [if_pos c17] at H
        have c17b0 : decide (0 ≤ x27_2) = true := decide_eq_true c17
        clear c17
        by_cases c18 : x27_2 < (l0_1.length : Int)
        ·rw [if_pos c18] at H
         have c18b0 : decide (x27_2 < (l0_1.length : Int)) = true := decide_eq_true c18
         clear c18
         obtain ⟨bq19, hbq19⟩ : ∃ b_ : Bool, b_ = ((rd_T140 l0_1 x27_2).f2) := ⟨_, rfl⟩
         replace H : (if bq19 = true then (some (0, false)) else ((impl_sumOf.f k2 ((rd_T140 l0_1 x27_2).f1)).bind fun t1352 => (impl_Snap_picture.l1 k2 (wrap64 (x4_2 + t1352)) l0_1 (l0_1.length : Int) (wrap64 (x27_2 + 1))))) = some (r1, r2) := by rw [← hbq19] at H; exact H
         have Nbq19 := xm hbq19
         clear hbq19
         by_cases c20 : bq19 = true
         ·subst c20
          have H1 : (some (0, false)) = some (r1, r2) := by first | (with_reducible rfl) | (rw [if_pos rfl] at H; exact H)
          clear H
          have H := H1
          clear H1
          simp only [Option.some.injEq, Prod.mk.injEq] at H
          obtain ⟨rfl, rfl⟩ := H
          have p1350 : 0 ≤ (x27_2 : Int) := of_decide_eq_true (by first | (with_reducible assumption) | assumption)
          have q1350 : x27_2 < (l0_1.length : Int) := of_decide_eq_true (by first | (with_reducible assumption) | assumption)
          obtain ⟨ad1350, A1350_0, c1350_0, A1350_1, c1350_1, e1350, hx1350_0, hx1350_1, hx1350_2, hl1350_0, hi1350_0, hl1350_1, hi1350_1⟩ := at_T140 HR0_1.out x27_2 p1350 q1350
          (try rw [← Nbq19.out] at hx1350_2)
          cases e1350
          replace hx1350_0 := (HB.out.cell (World.block_lt_of_cell? w _ hx1350_0)).trans hx1350_0
          replace hx1350_1 := (HB.out.cell (World.block_lt_of_cell? w _ hx1350_1)).trans hx1350_1
          replace hx1350_2 := (HB.out.cell (World.block_lt_of_cell? w _ hx1350_2)).trans hx1350_2
          have HR1350_0 := xm hi1350_0
          have HC1350_0 := xm hl1350_0
          clear hi1350_0 hl1350_0
          have HR1350_1 := xm hi1350_1
          have HC1350_1 := xm hl1350_1
          clear hi1350_1 hl1350_1
          replace p1350 := eq_true p1350
          replace q1350 := eq_true q1350
          go_wp2_with (first | ((with_reducible refine gate_dst (N := 8) rfl ?_); refine box_event ?hg (N := 8) ?hd (cs := #[.slice none 0 0, .slice none 0 0, .bool false]) (t := 140) ?hr ?_; (case hd => rfl); (case hg => rfl); (case hr => first | (go_simp; done) | (go_simp; rfl)); intro gb1351 hg w21 hbox hb; have n0_ := xm (blk_below (g := gb1347) (o := .cells #[.slice A0_0 l0_0.length c0_0, .slice (some ad1350) l0_1.length c0_1] 85 (0, 0)) (by (with_reducible repeat (first | refine xq ?_ _ | refine xr ?_ | refine xo ?_ _)); exact BK1347.out) hb); have n1_ := xm (below_step (by repeat (first | (with_reducible first | exact HB.out | apply xa | apply xn | apply xd | refine xt ?_ GE1347.out) | exact HB.out)) hb); have n2_ := xm (hbox); have n3_ := xm ((by rw [hg]; exact (xz (by repeat (first | (with_reducible first | exact HB.out | apply xa | apply xn | apply xd | refine xt ?_ GE1347.out) | exact HB.out))) : w.heap.size ≤ gb1351)); have n4_ := xm ((by rw [hg]; exact (xz (by repeat (first | (with_reducible first | exact HB.out | apply xa | apply xn | apply xd | refine xt ?_ GE1347.out) | exact HB.out))) : w.heap.size ≤ gb1351)); have n5_ := xm ((by rw [hg]; exact Nat.ne_of_lt (blk_lt (g := gb1347) (o := .cells #[.slice A0_0 l0_0.length c0_0, .slice (some ad1350) l0_1.length c0_1] 85 (0, 0)) (by (with_reducible repeat (first | refine xq ?_ _ | refine xr ?_ | refine xo ?_ _)); exact BK1347.out)) : gb1347 ≠ gb1351)); have n6_ := xm ((by rw [hg]; exact Nat.ne_of_gt (blk_lt (g := gb1347) (o := .cells #[.slice A0_0 l0_0.length c0_0, .slice (some ad1350) l0_1.length c0_1] 85 (0, 0)) (by (with_reducible repeat (first | refine xq ?_ _ | refine xr ?_ | refine xo ?_ _)); exact BK1347.out)) : gb1351 ≠ gb1347)); clear BK1347; clear HB; have BK1347 := n0_; have HB := n1_; have BK1351 := n2_; have GW1351 := n3_; have GE1351 := n4_; have NB1347_1351 := n5_; have NB1351_1347 := n6_; clear n0_ n1_ n2_ n3_ n4_ n5_ n6_; clear hb hbox hg; have hnb22 := NB1351_1347.out; have hnc22 := NB1347_1351.out; have hcz23_0 : w21.cell? ⟨gb1351, 0, none⟩ = some (.slice none 0 0) := (xc BK1351.out 0).trans rfl; have hcz23_1 : w21.cell? ⟨gb1351, 1, none⟩ = some (.slice none 0 0) := (xc BK1351.out 1).trans rfl; have hcz23_2 : w21.cell? ⟨gb1351, 2, none⟩ = some (.bool false) := (xc BK1351.out 2).trans rfl; have hfz23_0 := xf BK1351.out 0; have hfz23_1 := xf BK1351.out 1; have hfz23_2 := xf BK1351.out 2))
          go_ret2
          exact ⟨by first | rfl | (simp [errW_none, errW_some] <;> rfl) | (simp [*, errW_none, errW_some] <;> rfl), by repeat (first | (with_reducible first | exact HB.out | apply xa | apply xn | apply xd | refine xt ?_ GE1347.out | refine xt ?_ GE1351.out) | exact HB.out)⟩
         ·replace c20 := Bool.eq_false_iff.mpr c20
          subst c20
          have H1 : ((impl_sumOf.f k2 ((rd_T140 l0_1 x27_2).f1)).bind fun t1352 => (impl_Snap_picture.l1 k2 (wrap64 (x4_2 + t1352)) l0_1 (l0_1.length : Int) (wrap64 (x27_2 + 1)))) = some (r1, r2) := by first | (with_reducible rfl) | (rw [if_neg (show ¬ (false = true) by decide)] at H; exact H)
          clear H
          have H := H1
          clear H1
          replace H := Option.bind_eq_some_iff.mp H
          obtain ⟨t1352, A240, H⟩ := H
          replace H : (impl_Snap_picture.l1 k2 (wrap64 (x4_2 + t1352)) l0_1 (l0_1.length : Int) (wrap64 (x27_2 + 1))) = some (r1, r2) := H
          have A24 := xm A240
          clear A240
          have H' := xm H
          clear H
          have p1350 : 0 ≤ (x27_2 : Int) := of_decide_eq_true (by first | (with_reducible assumption) | assumption)
          have q1350 : x27_2 < (l0_1.length : Int) := of_decide_eq_true (by first | (with_reducible assumption) | assumption)
          obtain ⟨ad1350, A1350_0, c1350_0, A1350_1, c1350_1, e1350, hx1350_0, hx1350_1, hx1350_2, hl1350_0, hi1350_0, hl1350_1, hi1350_1⟩ := at_T140 HR0_1.out x27_2 p1350 q1350
          (try rw [← Nbq19.out] at hx1350_2)
          cases e1350
          replace hx1350_0 := (HB.out.cell (World.block_lt_of_cell? w _ hx1350_0)).trans hx1350_0
          replace hx1350_1 := (HB.out.cell (World.block_lt_of_cell? w _ hx1350_1)).trans hx1350_1
          replace hx1350_2 := (HB.out.cell (World.block_lt_of_cell? w _ hx1350_2)).trans hx1350_2
          have HR1350_0 := xm hi1350_0
          have HC1350_0 := xm hl1350_0
          clear hi1350_0 hl1350_0
          have HR1350_1 := xm hi1350_1
          have HC1350_1 := xm hl1350_1
          clear hi1350_1 hl1350_1
          replace p1350 := eq_true p1350
          replace q1350 := eq_true q1350
          go_wp2_with (first | ((with_reducible refine gate_dst (N := 8) rfl ?_); refine box_event ?hg (N := 8) ?hd (cs := #[.slice none 0 0, .slice none 0 0, .bool false]) (t := 140) ?hr ?_; (case hd => rfl); (case hg => rfl); (case hr => first | (go_simp; done) | (go_simp; rfl)); intro gb1351 hg w25 hbox hb; have n0_ := xm (blk_below (g := gb1347) (o := .cells #[.slice A0_0 l0_0.length c0_0, .slice (some ad1350) l0_1.length c0_1] 85 (0, 0)) (by (with_reducible repeat (first | refine xq ?_ _ | refine xr ?_ | refine xo ?_ _)); exact BK1347.out) hb); have n1_ := xm (below_step (by repeat (first | (with_reducible first | exact HB.out | apply xa | apply xn | apply xd | refine xt ?_ GE1347.out) | exact HB.out)) hb); have n2_ := xm (hbox); have n3_ := xm ((by rw [hg]; exact (xz (by repeat (first | (with_reducible first | exact HB.out | apply xa | apply xn | apply xd | refine xt ?_ GE1347.out) | exact HB.out))) : w.heap.size ≤ gb1351)); have n4_ := xm ((by rw [hg]; exact (xz (by repeat (first | (with_reducible first | exact HB.out | apply xa | apply xn | apply xd | refine xt ?_ GE1347.out) | exact HB.out))) : w.heap.size ≤ gb1351)); have n5_ := xm ((by rw [hg]; exact Nat.ne_of_lt (blk_lt (g := gb1347) (o := .cells #[.slice A0_0 l0_0.length c0_0, .slice (some ad1350) l0_1.length c0_1] 85 (0, 0)) (by (with_reducible repeat (first | refine xq ?_ _ | refine xr ?_ | refine xo ?_ _)); exact BK1347.out)) : gb1347 ≠ gb1351)); have n6_ := xm ((by rw [hg]; exact Nat.ne_of_gt (blk_lt (g := gb1347) (o := .cells #[.slice A0_0 l0_0.length c0_0, .slice (some ad1350) l0_1.length c0_1] 85 (0, 0)) (by (with_reducible repeat (first | refine xq ?_ _ | refine xr ?_ | refine xo ?_ _)); exact BK1347.out)) : gb1351 ≠ gb1347)); clear BK1347; clear HB; have BK1347 := n0_; have HB := n1_; have BK1351 := n2_; have GW1351 := n3_; have GE1351 := n4_; have NB1347_1351 := n5_; have NB1351_1347 := n6_; clear n0_ n1_ n2_ n3_ n4_ n5_ n6_; clear hb hbox hg; have hnb26 := NB1351_1347.out; have hnc26 := NB1347_1351.out; have hcz27_0 : w25.cell? ⟨gb1351, 0, none⟩ = some (.slice none 0 0) := (xc BK1351.out 0).trans rfl; have hcz27_1 : w25.cell? ⟨gb1351, 1, none⟩ = some (.slice none 0 0) := (xc BK1351.out 1).trans rfl; have hcz27_2 : w25.cell? ⟨gb1351, 2, none⟩ = some (.bool false) := (xc BK1351.out 2).trans rfl; have hfz27_0 := xf BK1351.out 0; have hfz27_1 := xf BK1351.out 1; have hfz27_2 := xf BK1351.out 2) | ((with_reducible refine gate_callee (f := 123) rfl ?_); refine goesL_ (some 36) rfl rfl Try.func123 (by kernel_rfl) rfl #[.slice A1350_1 ((rd_T140 l0_1 x27_2).f1).length c1350_1] rfl (by (try simp only [List.map_toArray, List.map_cons, List.map_nil]); first | done | rfl | (simp only [List.length_drop, List.length_take]; rfl)) ?_; (with_reducible refine (impl_sumOf.calls k2 _ _ ((rd_T140 l0_1 x27_2).f1) t1352 _ ?side1 ?side2 A24.out).mono ?_); (case side1 => exact Kd.C_below HR1350_1.out (by repeat (first | (with_reducible first | exact HB.out | apply xa | apply xn | apply xd | refine xt ?_ GE1347.out | refine xt ?_ GE1351.out) | exact HB.out))); (case side2 => exact HC1350_1.out); rintro e w' ⟨rfl, ⟨nd, rfl⟩⟩; refine ⟨_, rfl, ?_⟩))
          go_roundg k2
          case measure => have := HK1.out; have := HK2.out; omega
          case rel => (try rw [← Nbq19.out]); exact ⟨(wrap64 (x4_2 + t1352)), (wrap64 (x27_2 + 1)), (by first | rfl | (simp; done) | (simp [*]; done)), (by first | rfl | (simp; done) | (simp [*]; done)), H', ⟨by have := HK1.out; have := HK2.out; omega⟩, ⟨by (with_reducible repeat (first | refine xq ?_ _ | refine xr ?_ | refine xo ?_ _)); refine blk_far ?_ NB1347_1351.out _; (with_reducible repeat (first | refine xq ?_ _ | refine xr ?_ | refine xo ?_ _)); refine blk_far ?_ NB1347_1351.out _; (with_reducible repeat (first | refine xq ?_ _ | refine xr ?_ | refine xo ?_ _)); refine blk_far ?_ NB1347_1351.out _; (with_reducible repeat (first | refine xq ?_ _ | refine xr ?_ | refine xo ?_ _)); exact BK1347.out⟩, ⟨by repeat (first | (with_reducible first | exact HB.out | apply xa | apply xn | apply xd | refine xt ?_ GE1347.out | refine xt ?_ GE1351.out) | exact HB.out)⟩⟩
        ·rw [if_neg c18] at H
         exact absurd H (by simp)
       ·rw [if_neg c17] at H
        exact absurd H (by simp)
      ·rw [if_neg c16] at H
       have c16b0 : decide (x27_2 < (l0_1.length : Int)) = false := decide_eq_false c16
       clear c16
       simp only [Option.some.injEq, Prod.mk.injEq] at H
       obtain ⟨rfl, rfl⟩ := H
       go_wp2
       go_ret2
       exact ⟨by first | rfl | (simp [errW_none, errW_some] <;> rfl) | (simp [*, errW_none, errW_some] <;> rfl), by repeat (first | (with_reducible first | exact HB.out | apply xa | apply xn | apply xd | refine xt ?_ GE1347.out) | exact HB.out)⟩

/-! ### impl_PictureOf: function 81 -/
def impl_PictureOf.f (k : Nat) (l0_0 : List (S138)) (l0_1 : List (S140)) : Option (Int × Bool) := (impl_GoodSnap.f k l0_0 l0_1).bind fun t1354 => (if t1354 = true then ((impl_Snap_picture.f k l0_0 l0_1).bind fun bt1355 => (some (bt1355.1, bt1355.2))) else (some (0, false)))
theorem impl_PictureOf.mono : ∀ a0 a1 k, LeO (impl_PictureOf.f k a0 a1) (impl_PictureOf.f (k + 1) a0 a1) := by
 intro a0 a1 k
 unfold impl_PictureOf.f
 repeat' first
   | (with_reducible exact impl_GoodSnap.mono _ _ _)
   | (with_reducible exact impl_Snap_picture.mono _ _ _)
   | (with_reducible exact LeO.refl _)
   | (with_reducible exact LeO.none _)
   | (with_reducible refine LeO.ite ?_ ?_)
   | (with_reducible refine LeO.bind ?_ (fun _ => ?_))
   | exact impl_GoodSnap.mono _ _ _
   | exact impl_Snap_picture.mono _ _ _
   | exact LeO.none _
   | refine LeO.ite ?_ ?_
   | refine LeO.bind ?_ (fun _ => ?_)
set_option maxHeartbeats 8000000 in
set_option maxRecDepth 100000 in
theorem impl_PictureOf.calls (k : Nat) (A0_0 : Option Addr) (c0_0 : Nat) (l0_0 : List (S138)) (A0_1 : Option Addr) (c0_1 : Nat) (l0_1 : List (S140)) (r1 : Int) (r2 : Bool) (w : World) (hr0_0 : Kd.C k138 w A0_0 l0_0.length l0_0) (hc0_0 : l0_0.length ≤ c0_0) (hr0_1 : Kd.C k140 w A0_1 l0_1.length l0_1) (hc0_1 : l0_1.length ≤ c0_1) (h : impl_PictureOf.f k l0_0 l0_1 = some (r1, r2)) :
  Calls Try.prog 81 #[.agg #[.slice A0_0 l0_0.length c0_0, .slice A0_1 l0_1.length c0_1]] w fun e w' => e = .returned (.tuple #[.int .i64 r1, .bool r2]) ∧ Below w.heap.size w w' := by
 have hu85 := Try.underlying85
 have HR0_0 := xm hr0_0
 have HC0_0 := xm hc0_0
 clear hr0_0 hc0_0
 have HR0_1 := xm hr0_1
 have HC0_1 := xm hc0_1
 clear hr0_1 hc0_1
 have HB := xm (Below.refl w.heap.size w)
 have H : ((impl_GoodSnap.f k l0_0 l0_1).bind fun t1354 => (if t1354 = true then ((impl_Snap_picture.f k l0_0 l0_1).bind fun bt1355 => (some (bt1355.1, bt1355.2))) else (some (0, false)))) = some (r1, r2) := h
 clear h
 replace H := Option.bind_eq_some_iff.mp H
 obtain ⟨t1354, A20, H⟩ := H
 replace H : (if t1354 = true then ((impl_Snap_picture.f k l0_0 l0_1).bind fun bt1355 => (some (bt1355.1, bt1355.2))) else (some (0, false))) = some (r1, r2) := H
 have A2 := xm A20
 clear A20
 by_cases c3 : t1354 = true
 ·subst c3
  have H1 : ((impl_Snap_picture.f k l0_0 l0_1).bind fun bt1355 => (some (bt1355.1, bt1355.2))) = some (r1, r2) := by first | (with_reducible rfl) | (rw [if_pos rfl] at H; exact H)
  clear H
  have H := H1
  clear H1
  replace H := Option.bind_eq_some_iff.mp H
  obtain ⟨⟨t1355, t1356⟩, A40, H⟩ := H
  replace H : (some (t1355, t1356)) = some (r1, r2) := H
  have A4 := xm A40
  clear A40
  simp only [Option.some.injEq, Prod.mk.injEq] at H
  obtain ⟨rfl, rfl⟩ := H
  go_enter Try.func81, Try.ntmps81
  go_wp2_with (first | ((with_reducible refine gate_dst (N := 1) rfl ?_); refine box_event ?hg (N := 1) ?hd (cs := #[.slice A0_0 l0_0.length c0_0, .slice A0_1 l0_1.length c0_1]) (t := 85) ?hr ?_; (case hd => rfl); (case hg => rfl); (case hr => first | (go_simp; done) | (go_simp; rfl)); intro gb1353 hg w5 hbox hb; have n0_ := xm (below_step (by repeat (first | (with_reducible first | exact HB.out | apply xa | apply xn | apply xd) | exact HB.out)) hb); have n1_ := xm (hbox); have n2_ := xm ((by rw [hg]; exact (xz (by repeat (first | (with_reducible first | exact HB.out | apply xa | apply xn | apply xd) | exact HB.out))) : w.heap.size ≤ gb1353)); have n3_ := xm ((by rw [hg]; exact (xz (by repeat (first | (with_reducible first | exact HB.out | apply xa | apply xn | apply xd) | exact HB.out))) : w.heap.size ≤ gb1353)); clear HB; have HB := n0_; have BK1353 := n1_; have GW1353 := n2_; have GE1353 := n3_; clear n0_ n1_ n2_ n3_; clear hb hbox hg; have hcz6_0 : w5.cell? ⟨gb1353, 0, none⟩ = some (.slice A0_0 l0_0.length c0_0) := (xc BK1353.out 0).trans rfl; have hcz6_1 : w5.cell? ⟨gb1353, 1, none⟩ = some (.slice A0_1 l0_1.length c0_1) := (xc BK1353.out 1).trans rfl; have hfz6_0 := xf BK1353.out 0; have hfz6_1 := xf BK1353.out 1) | ((with_reducible refine gate_callee (f := 58) rfl ?_); refine goesL_ (some 5) rfl rfl Try.func58 (by kernel_rfl) rfl #[.agg #[.slice A0_0 l0_0.length c0_0, .slice A0_1 l0_1.length c0_1]] rfl (by (try simp only [List.map_toArray, List.map_cons, List.map_nil]); first | done | rfl | (simp only [List.length_drop, List.length_take]; rfl)) ?_; (with_reducible refine (impl_GoodSnap.calls k _ _ l0_0 _ _ l0_1 true _ ?side1 ?side2 ?side3 ?side4 A2.out).mono ?_); (case side1 => repeat (first | exact (Kd.C_below HR0_0.out HB.out) | (with_reducible refine Kd.C_alloc ?_ _) | (with_reducible refine Kd.C_drewN ?_ _) | (with_reducible refine Kd.C_drew ?_))); (case side2 => exact HC0_0.out); (case side3 => repeat (first | exact (Kd.C_below HR0_1.out HB.out) | (with_reducible refine Kd.C_alloc ?_ _) | (with_reducible refine Kd.C_drewN ?_ _) | (with_reducible refine Kd.C_drew ?_))); (case side4 => exact HC0_1.out); rintro e w7 ⟨rfl, hb⟩; refine ⟨_, rfl, ?_⟩; have n0_ := xm (blk_below (g := gb1353) (o := .cells #[.slice A0_0 l0_0.length c0_0, .slice A0_1 l0_1.length c0_1] 85 (0, 0)) (by (with_reducible repeat (first | refine xq ?_ _ | refine xr ?_ | refine xo ?_ _)); exact BK1353.out) hb); have n1_ := xm (below_step (by repeat (first | (with_reducible first | exact HB.out | apply xa | apply xn | apply xd | refine xt ?_ GE1353.out) | exact HB.out)) hb); clear BK1353; clear HB; have BK1353 := n0_; have HB := n1_; clear n0_ n1_; (try clear hb); (try clear hb2); (try clear hk); (try clear hi); have hcz8_0 : w7.cell? ⟨gb1353, 0, none⟩ = some (.slice A0_0 l0_0.length c0_0) := (xc BK1353.out 0).trans rfl; have hcz8_1 : w7.cell? ⟨gb1353, 1, none⟩ = some (.slice A0_1 l0_1.length c0_1) := (xc BK1353.out 1).trans rfl; have hfz8_0 := xf BK1353.out 0; have hfz8_1 := xf BK1353.out 1) | ((with_reducible refine gate_callee (f := 142) rfl ?_); refine goesL_ (some 8) rfl rfl Try.func142 (by kernel_rfl) rfl #[.agg #[.slice A0_0 l0_0.length c0_0, .slice A0_1 l0_1.length c0_1]] rfl (by (try simp only [List.map_toArray, List.map_cons, List.map_nil]); first | done | rfl | (simp only [List.length_drop, List.length_take]; rfl)) ?_; (with_reducible refine (impl_Snap_picture.calls k _ _ l0_0 _ _ l0_1 t1355 t1356 _ ?side1 ?side2 ?side3 ?side4 A4.out).mono ?_); (case side1 => repeat (first | exact (Kd.C_below HR0_0.out HB.out) | (with_reducible refine Kd.C_alloc ?_ _) | (with_reducible refine Kd.C_drewN ?_ _) | (with_reducible refine Kd.C_drew ?_))); (case side2 => exact HC0_0.out); (case side3 => repeat (first | exact (Kd.C_below HR0_1.out HB.out) | (with_reducible refine Kd.C_alloc ?_ _) | (with_reducible refine Kd.C_drewN ?_ _) | (with_reducible refine Kd.C_drew ?_))); (case side4 => exact HC0_1.out); rintro e w9 ⟨rfl, hb⟩; refine ⟨_, rfl, ?_⟩; have n0_ := xm (blk_below (g := gb1353) (o := .cells #[.slice A0_0 l0_0.length c0_0, .slice A0_1 l0_1.length c0_1] 85 (0, 0)) (by (with_reducible repeat (first | refine xq ?_ _ | refine xr ?_ | refine xo ?_ _)); exact BK1353.out) hb); have n1_ := xm (below_step (by repeat (first | (with_reducible first | exact HB.out | apply xa | apply xn | apply xd | refine xt ?_ GE1353.out) | exact HB.out)) hb); clear BK1353; clear HB; have BK1353 := n0_; have HB := n1_; clear n0_ n1_; (try clear hb); (try clear hb2); (try clear hk); (try clear hi)))
  go_ret2
  exact ⟨by first | rfl | (simp [errW_none, errW_some] <;> rfl) | (simp [*, errW_none, errW_some] <;> rfl), by repeat (first | (with_reducible first | exact HB.out | apply xa | apply xn | apply xd | refine xt ?_ GE1353.out) | exact HB.out)⟩
 ·replace c3 := Bool.eq_false_iff.mpr c3
  subst c3
  have H1 : (some (0, false)) = some (r1, r2) := by first | (with_reducible rfl) | (rw [if_neg (show ¬ (false = true) by decide)] at H; exact H)
  clear H
  have H := H1
  clear H1
  simp only [Option.some.injEq, Prod.mk.injEq] at H
  obtain ⟨rfl, rfl⟩ := H
  go_enter Try.func81, Try.ntmps81
  go_wp2_with (first | ((with_reducible refine gate_dst (N := 1) rfl ?_); refine box_event ?hg (N := 1) ?hd (cs := #[.slice A0_0 l0_0.length c0_0, .slice A0_1 l0_1.length c0_1]) (t := 85) ?hr ?_; (case hd => rfl); (case hg => rfl); (case hr => first | (go_simp; done) | (go_simp; rfl)); intro gb1353 hg w10 hbox hb; have n0_ := xm (below_step (by repeat (first | (with_reducible first | exact HB.out | apply xa | apply xn | apply xd) | exact HB.out)) hb); have n1_ := xm (hbox); have n2_ := xm ((by rw [hg]; exact (xz (by repeat (first | (with_reducible first | exact HB.out | apply xa | apply xn | apply xd) | exact HB.out))) : w.heap.size ≤ gb1353)); have n3_ := xm ((by rw [hg]; exact (xz (by repeat (first | (with_reducible first | exact HB.out | apply xa | apply xn | apply xd) | exact HB.out))) : w.heap.size ≤ gb1353)); clear HB; have HB := n0_; have BK1353 := n1_; have GW1353 := n2_; have GE1353 := n3_; clear n0_ n1_ n2_ n3_; clear hb hbox hg; have hcz11_0 : w10.cell? ⟨gb1353, 0, none⟩ = some (.slice A0_0 l0_0.length c0_0) := (xc BK1353.out 0).trans rfl; have hcz11_1 : w10.cell? ⟨gb1353, 1, none⟩ = some (.slice A0_1 l0_1.length c0_1) := (xc BK1353.out 1).trans rfl; have hfz11_0 := xf BK1353.out 0; have hfz11_1 := xf BK1353.out 1) | ((with_reducible refine gate_callee (f := 58) rfl ?_); refine goesL_ (some 5) rfl rfl Try.func58 (by kernel_rfl) rfl #[.agg #[.slice A0_0 l0_0.length c0_0, .slice A0_1 l0_1.length c0_1]] rfl (by (try simp only [List.map_toArray, List.map_cons, List.map_nil]); first | done | rfl | (simp only [List.length_drop, List.length_take]; rfl)) ?_; (with_reducible refine (impl_GoodSnap.calls k _ _ l0_0 _ _ l0_1 false _ ?side1 ?side2 ?side3 ?side4 A2.out).mono ?_); (case side1 => repeat (first | exact (Kd.C_below HR0_0.out HB.out) | (with_reducible refine Kd.C_alloc ?_ _) | (with_reducible refine Kd.C_drewN ?_ _) | (with_reducible refine Kd.C_drew ?_))); (case side2 => exact HC0_0.out); (case side3 => repeat (first | exact (Kd.C_below HR0_1.out HB.out) | (with_reducible refine Kd.C_alloc ?_ _) | (with_reducible refine Kd.C_drewN ?_ _) | (with_reducible refine Kd.C_drew ?_))); (case side4 => exact HC0_1.out); rintro e w12 ⟨rfl, hb⟩; refine ⟨_, rfl, ?_⟩; have n0_ := xm (blk_below (g := gb1353) (o := .cells #[.slice A0_0 l0_0.length c0_0, .slice A0_1 l0_1.length c0_1] 85 (0, 0)) (by (with_reducible repeat (first | refine xq ?_ _ | refine xr ?_ | refine xo ?_ _)); exact BK1353.out) hb); have n1_ := xm (below_step (by repeat (first | (with_reducible first | exact HB.out | apply xa | apply xn | apply xd | refine xt ?_ GE1353.out) | exact HB.out)) hb); clear BK1353; clear HB; have BK1353 := n0_; have HB := n1_; clear n0_ n1_; (try clear hb); (try clear hb2); (try clear hk); (try clear hi)))
  go_ret2
  exact ⟨by first | rfl | (simp [errW_none, errW_some] <;> rfl) | (simp [*, errW_none, errW_some] <;> rfl), by repeat (first | (with_reducible first | exact HB.out | apply xa | apply xn | apply xd | refine xt ?_ GE1353.out) | exact HB.out)⟩

/-! ### laws_FnExactPictureOf: function 17 -/
def laws_FnExactPictureOf.f (k : Nat) (l0_0 : List (S181)) (l0_1 : List (S179)) : Option (Bool) := (laws_szSnap.f k l0_0 l0_1 1048576).bind fun t1358 => (if t1358 < 0 then (some true) else ((laws_toSnap.f k l0_0 l0_1).bind fun bt1359 => ((spec_PictureOf.f k bt1359.1 bt1359.2).bind fun bt1365 => ((laws_toSnap.f k l0_0 l0_1).bind fun bt1367 => ((impl_PictureOf.f k bt1367.1 bt1367.2).bind fun bt1374 => (if bt1374.1 = bt1365.1 then (if (bt1374.2 != bt1365.2) = true then (some false) else ((laws_toSnap.f k l0_0 l0_1).bind fun bt1376 => ((laws_eqSnap.f k bt1367.1 bt1367.2 bt1376.1 bt1376.2).bind fun t1382 => (if t1382 = true then (some true) else (some false))))) else (some false)))))))
theorem laws_FnExactPictureOf.mono : ∀ a0 a1 k, LeO (laws_FnExactPictureOf.f k a0 a1) (laws_FnExactPictureOf.f (k + 1) a0 a1) := by
 intro a0 a1 k
 unfold laws_FnExactPictureOf.f
 repeat' first
   | (with_reducible exact impl_PictureOf.mono _ _ _)
   | (with_reducible exact laws_eqSnap.mono _ _ _ _ _)
   | (with_reducible exact laws_szSnap.mono _ _ _ _)
   | (with_reducible exact laws_toSnap.mono _ _ _)
   | (with_reducible exact spec_PictureOf.mono _ _ _)
   | (with_reducible exact LeO.refl _)
   | (with_reducible exact LeO.none _)
   | (with_reducible refine LeO.ite ?_ ?_)
   | (with_reducible refine LeO.bind ?_ (fun _ => ?_))
   | exact impl_PictureOf.mono _ _ _
   | exact laws_eqSnap.mono _ _ _ _ _
   | exact laws_szSnap.mono _ _ _ _
   | exact laws_toSnap.mono _ _ _
   | exact spec_PictureOf.mono _ _ _
   | exact LeO.none _
   | refine LeO.ite ?_ ?_
   | refine LeO.bind ?_ (fun _ => ?_)
set_option maxHeartbeats 8000000 in
set_option maxRecDepth 100000 in
theorem laws_FnExactPictureOf.calls (k : Nat) (A0_0 : Option Addr) (c0_0 : Nat) (l0_0 : List (S181)) (A0_1 : Option Addr) (c0_1 : Nat) (l0_1 : List (S179)) (w : World) (hr0_0 : Kd.C k181 w A0_0 l0_0.length l0_0) (hc0_0 : l0_0.length ≤ c0_0) (hr0_1 : Kd.C k179 w A0_1 l0_1.length l0_1) (hc0_1 : l0_1.length ≤ c0_1) (h : laws_FnExactPictureOf.f k l0_0 l0_1 = some true) :
  Calls Try.prog 17 #[.agg #[.slice A0_0 l0_0.length c0_0, .slice A0_1 l0_1.length c0_1]] w fun e w' => e = .returned (.bool true) ∧ Below w.heap.size w w' := by
 have hu79 := Try.underlying79
 have hu85 := Try.underlying85
 have HR0_0 := xm hr0_0
 have HC0_0 := xm hc0_0
 clear hr0_0 hc0_0
 have HR0_1 := xm hr0_1
 have HC0_1 := xm hc0_1
 clear hr0_1 hc0_1
 have HB := xm (Below.refl w.heap.size w)
 have H : ((laws_szSnap.f k l0_0 l0_1 1048576).bind fun t1358 => (if t1358 < 0 then (some true) else ((laws_toSnap.f k l0_0 l0_1).bind fun bt1359 => ((spec_PictureOf.f k bt1359.1 bt1359.2).bind fun bt1365 => ((laws_toSnap.f k l0_0 l0_1).bind fun bt1367 => ((impl_PictureOf.f k bt1367.1 bt1367.2).bind fun bt1374 => (if bt1374.1 = bt1365.1 then (if (bt1374.2 != bt1365.2) = true then (some false) else ((laws_toSnap.f k l0_0 l0_1).bind fun bt1376 => ((laws_eqSnap.f k bt1367.1 bt1367.2 bt1376.1 bt1376.2).bind fun t1382 => (if t1382 = true then (some true) else (some false))))) else (some false)))))))) = some true := h
 clear h
 replace H := Option.bind_eq_some_iff.mp H
 obtain ⟨t1358, A20, H⟩ := H
 (try dsimp only at H)
 have A2 := xm A20
 clear A20
 by_cases c3 : t1358 < 0
 ·rw [if_pos c3] at H
  have c3b0 : decide (t1358 < 0) = true := decide_eq_true c3
  clear c3
  clear H
  go_enter Try.func17, Try.ntmps17
  go_wp2_with (first | ((with_reducible refine gate_dst (N := 1) rfl ?_); refine box_event ?hg (N := 1) ?hd (cs := #[.slice A0_0 l0_0.length c0_0, .slice A0_1 l0_1.length c0_1]) (t := 79) ?hr ?_; (case hd => rfl); (case hg => rfl); (case hr => first | (go_simp; done) | (go_simp; rfl)); intro gb1357 hg w4 hbox hb; have n0_ := xm (below_step (by repeat (first | (with_reducible first | exact HB.out | apply xa | apply xn | apply xd) | exact HB.out)) hb); have n1_ := xm (hbox); have n2_ := xm ((by rw [hg]; exact (xz (by repeat (first | (with_reducible first | exact HB.out | apply xa | apply xn | apply xd) | exact HB.out))) : w.heap.size ≤ gb1357)); have n3_ := xm ((by rw [hg]; exact (xz (by repeat (first | (with_reducible first | exact HB.out | apply xa | apply xn | apply xd) | exact HB.out))) : w.heap.size ≤ gb1357)); clear HB; have HB := n0_; have BK1357 := n1_; have GW1357 := n2_; have GE1357 := n3_; clear n0_ n1_ n2_ n3_; clear hb hbox hg; have hcz5_0 : w4.cell? ⟨gb1357, 0, none⟩ = some (.slice A0_0 l0_0.length c0_0) := (xc BK1357.out 0).trans rfl; have hcz5_1 : w4.cell? ⟨gb1357, 1, none⟩ = some (.slice A0_1 l0_1.length c0_1) := (xc BK1357.out 1).trans rfl; have hfz5_0 := xf BK1357.out 0; have hfz5_1 := xf BK1357.out 1) | ((with_reducible refine gate_callee (f := 55) rfl ?_); refine goesL_ (some 11) rfl rfl Try.func55 (by kernel_rfl) rfl #[.agg #[.slice A0_0 l0_0.length c0_0, .slice A0_1 l0_1.length c0_1], .int .i64 1048576] rfl (by (try simp only [List.map_toArray, List.map_cons, List.map_nil]); first | done | rfl | (simp only [List.length_drop, List.length_take]; rfl)) ?_; (with_reducible refine (laws_szSnap.calls k _ _ l0_0 _ _ l0_1 1048576 t1358 _ ?side1 ?side2 ?side3 ?side4 A2.out).mono ?_); (case side1 => repeat (first | exact (Kd.C_below HR0_0.out HB.out) | (with_reducible refine Kd.C_alloc ?_ _) | (with_reducible refine Kd.C_drewN ?_ _) | (with_reducible refine Kd.C_drew ?_))); (case side2 => exact HC0_0.out); (case side3 => repeat (first | exact (Kd.C_below HR0_1.out HB.out) | (with_reducible refine Kd.C_alloc ?_ _) | (with_reducible refine Kd.C_drewN ?_ _) | (with_reducible refine Kd.C_drew ?_))); (case side4 => exact HC0_1.out); rintro e w6 ⟨rfl, hb⟩; refine ⟨_, rfl, ?_⟩; have n0_ := xm (blk_below (g := gb1357) (o := .cells #[.slice A0_0 l0_0.length c0_0, .slice A0_1 l0_1.length c0_1] 79 (0, 0)) (by (with_reducible repeat (first | refine xq ?_ _ | refine xr ?_ | refine xo ?_ _)); exact BK1357.out) hb); have n1_ := xm (below_step (by repeat (first | (with_reducible first | exact HB.out | apply xa | apply xn | apply xd | refine xt ?_ GE1357.out) | exact HB.out)) hb); clear BK1357; clear HB; have BK1357 := n0_; have HB := n1_; clear n0_ n1_; (try clear hb); (try clear hb2); (try clear hk); (try clear hi)))
  go_ret
  exact ⟨by first | rfl | (simp [errW_none, errW_some] <;> rfl) | (simp [*, errW_none, errW_some] <;> rfl), by repeat (first | (with_reducible first | exact HB.out | apply xa | apply xn | apply xd | refine xt ?_ GE1357.out) | exact HB.out)⟩
 ·rw [if_neg c3] at H
  have c3b0 : decide (t1358 < 0) = false := decide_eq_false c3
  clear c3
  replace H := Option.bind_eq_some_iff.mp H
  obtain ⟨⟨t1359, t1362⟩, A70, H⟩ := H
  (try dsimp only at H)
  have A7 := xm A70
  clear A70
  replace H := Option.bind_eq_some_iff.mp H
  obtain ⟨⟨t1365, t1366⟩, A80, H⟩ := H
  (try dsimp only at H)
  have A8 := xm A80
  clear A80
  replace H := Option.bind_eq_some_iff.mp H
  obtain ⟨⟨t1367, t1370⟩, A90, H⟩ := H
  (try dsimp only at H)
  have A9 := xm A90
  clear A90
  replace H := Option.bind_eq_some_iff.mp H
  obtain ⟨⟨t1374, t1375⟩, A100, H⟩ := H
  (try dsimp only at H)
  have A10 := xm A100
  clear A100
  by_cases c11 : t1374 = t1365
  ·rw [if_pos c11] at H
   have c11b0 : (t1374 == t1365) = true := beq_iff_eq.mpr c11
   have c11b1 : (t1374 != t1365) = false := bne_eq_false_iff_eq.mpr c11
   clear c11
   by_cases c12 : (t1375 != t1366) = true
   ·rw [if_pos c12] at H
    have c12b0 : (t1375 != t1366) = true := c12
    (try (have c12b1 : decide (t1375 = t1366) = false := by simpa using c12))
    (try (have c12b2 : (t1375 == t1366) = false := by simpa using c12))
    (try (have c12b3 : ¬ (t1375 = t1366) := by simpa using c12))
    clear c12
    exact absurd H (by simp)
   ·rw [if_neg c12] at H
    have c12b0 : (t1375 != t1366) = false := by simpa using c12
    (try (have c12b1 : decide (t1375 = t1366) = true := by simpa using c12))
    (try (have c12b2 : (t1375 == t1366) = true := by simpa using c12))
    clear c12
    replace H := Option.bind_eq_some_iff.mp H
    obtain ⟨⟨t1376, t1379⟩, A130, H⟩ := H
    (try dsimp only at H)
    have A13 := xm A130
    clear A130
    replace H := Option.bind_eq_some_iff.mp H
    obtain ⟨t1382, A140, H⟩ := H
    (try dsimp only at H)
    have A14 := xm A140
    clear A140
    by_cases c15 : t1382 = true
    ·subst c15
     have H1 : (some true) = some true := by first | (with_reducible rfl) | (rw [if_pos rfl] at H; exact H)
     clear H
     have H := H1
     clear H1
     clear H
     go_enter Try.func17, Try.ntmps17
     try go_wp2_with (first | ((with_reducible refine gate_dst (N := 1) rfl ?_); refine box_event ?hg (N := 1) ?hd (cs := #[.slice A0_0 l0_0.length c0_0, .slice A0_1 l0_1.length c0_1]) (t := 79) ?hr ?_; (case hd => rfl); (case hg => rfl); (case hr => first | (go_simp; done) | (go_simp; rfl)); intro gb1357 hg w16 hbox hb; have n0_ := xm (below_step (by repeat (first | (with_reducible first | exact HB.out | apply xa | apply xn | apply xd) | exact HB.out)) hb); have n1_ := xm (hbox); have n2_ := xm ((by rw [hg]; exact (xz (by repeat (first | (with_reducible first | exact HB.out | apply xa | apply xn | apply xd) | exact HB.out))) : w.heap.size ≤ gb1357)); have n3_ := xm ((by rw [hg]; exact (xz (by repeat (first | (with_reducible first | exact HB.out | apply xa | apply xn | apply xd) | exact HB.out))) : w.heap.size ≤ gb1357)); clear HB; have HB := n0_; have BK1357 := n1_; have GW1357 := n2_; have GE1357 := n3_; clear n0_ n1_ n2_ n3_; clear hb hbox hg; have hcz17_0 : w16.cell? ⟨gb1357, 0, none⟩ = some (.slice A0_0 l0_0.length c0_0) := (xc BK1357.out 0).trans rfl; have hcz17_1 : w16.cell? ⟨gb1357, 1, none⟩ = some (.slice A0_1 l0_1.length c0_1) := (xc BK1357.out 1).trans rfl; have hfz17_0 := xf BK1357.out 0; have hfz17_1 := xf BK1357.out 1) | ((with_reducible refine gate_callee (f := 55) rfl ?_); refine goesL_ (some 11) rfl rfl Try.func55 (by kernel_rfl) rfl #[.agg #[.slice A0_0 l0_0.length c0_0, .slice A0_1 l0_1.length c0_1], .int .i64 1048576] rfl (by (try simp only [List.map_toArray, List.map_cons, List.map_nil]); first | done | rfl | (simp only [List.length_drop, List.length_take]; rfl)) ?_; (with_reducible refine (laws_szSnap.calls k _ _ l0_0 _ _ l0_1 1048576 t1358 _ ?side1 ?side2 ?side3 ?side4 A2.out).mono ?_); (case side1 => repeat (first | exact (Kd.C_below HR0_0.out HB.out) | (with_reducible refine Kd.C_alloc ?_ _) | (with_reducible refine Kd.C_drewN ?_ _) | (with_reducible refine Kd.C_drew ?_))); (case side2 => exact HC0_0.out); (case side3 => repeat (first | exact (Kd.C_below HR0_1.out HB.out) | (with_reducible refine Kd.C_alloc ?_ _) | (with_reducible refine Kd.C_drewN ?_ _) | (with_reducible refine Kd.C_drew ?_))); (case side4 => exact HC0_1.out); rintro e w18 ⟨rfl, hb⟩; refine ⟨_, rfl, ?_⟩; have n0_ := xm (blk_below (g := gb1357) (o := .cells #[.slice A0_0 l0_0.length c0_0, .slice A0_1 l0_1.length c0_1] 79 (0, 0)) (by (with_reducible repeat (first | refine xq ?_ _ | refine xr ?_ | refine xo ?_ _)); exact BK1357.out) hb); have n1_ := xm (below_step (by repeat (first | (with_reducible first | exact HB.out | apply xa | apply xn | apply xd | refine xt ?_ GE1357.out) | exact HB.out)) hb); clear BK1357; clear HB; have BK1357 := n0_; have HB := n1_; clear n0_ n1_; (try clear hb); (try clear hb2); (try clear hk); (try clear hi); have hcz19_0 : w18.cell? ⟨gb1357, 0, none⟩ = some (.slice A0_0 l0_0.length c0_0) := (xc BK1357.out 0).trans rfl; have hcz19_1 : w18.cell? ⟨gb1357, 1, none⟩ = some (.slice A0_1 l0_1.length c0_1) := (xc BK1357.out 1).trans rfl; have hfz19_0 := xf BK1357.out 0; have hfz19_1 := xf BK1357.out 1) | ((with_reducible refine gate_callee (f := 57) rfl ?_); refine goesL_ (some 16) rfl rfl Try.func57 (by kernel_rfl) rfl #[.agg #[.slice A0_0 l0_0.length c0_0, .slice A0_1 l0_1.length c0_1]] rfl (by (try simp only [List.map_toArray, List.map_cons, List.map_nil]); first | done | rfl | (simp only [List.length_drop, List.length_take]; rfl)) ?_; (with_reducible refine (laws_toSnap.calls k _ _ l0_0 _ _ l0_1 t1359 t1362 _ ?side1 ?side2 ?side3 ?side4 A7.out).mono ?_); (case side1 => repeat (first | exact (Kd.C_below HR0_0.out HB.out) | (with_reducible refine Kd.C_alloc ?_ _) | (with_reducible refine Kd.C_drewN ?_ _) | (with_reducible refine Kd.C_drew ?_))); (case side2 => exact HC0_0.out); (case side3 => repeat (first | exact (Kd.C_below HR0_1.out HB.out) | (with_reducible refine Kd.C_alloc ?_ _) | (with_reducible refine Kd.C_drewN ?_ _) | (with_reducible refine Kd.C_drew ?_))); (case side4 => exact HC0_1.out); rintro e w20 ⟨v1360, v1363, rfl, ho0, ho1, hb⟩; refine ⟨_, rfl, ?_⟩; have n0_ := xm (Kd.R_lower ho0 (xz (by repeat (first | (with_reducible first | exact HB.out | apply xa | apply xn | apply xd | refine xt ?_ GE1357.out) | exact HB.out)))); have n1_ := xm (Kd.S_lower ho1 (xz (by repeat (first | (with_reducible first | exact HB.out | apply xa | apply xn | apply xd | refine xt ?_ GE1357.out) | exact HB.out)))); have n2_ := xm (blk_below (g := gb1357) (o := .cells #[.slice A0_0 l0_0.length c0_0, .slice A0_1 l0_1.length c0_1] 79 (0, 0)) (by (with_reducible repeat (first | refine xq ?_ _ | refine xr ?_ | refine xo ?_ _)); exact BK1357.out) hb); have n3_ := xm (below_step (by repeat (first | (with_reducible first | exact HB.out | apply xa | apply xn | apply xd | refine xt ?_ GE1357.out) | exact HB.out)) hb); clear BK1357; clear HB; have HO1361 := n0_; have HO1364 := n1_; have BK1357 := n2_; have HB := n3_; clear n0_ n1_ n2_ n3_; (try clear hb); (try clear hb2); (try clear hk); (try clear hi); (try clear ho0); (try clear ho1); obtain ⟨Ao21, co21, eo21⟩ := Kd.R_slice HO1361.out; subst eo21; obtain ⟨Ao22, co22, eo22⟩ := Kd.S_slice HO1364.out; subst eo22) | ((with_reducible refine gate_callee (f := 80) rfl ?_); refine goesL_ (some 17) rfl rfl Try.func80 (by kernel_rfl) rfl #[.agg #[.slice Ao21 t1359.length co21, .slice Ao22 t1362.length co22]] rfl (by (try simp only [List.map_toArray, List.map_cons, List.map_nil]); first | done | rfl | (simp only [List.length_drop, List.length_take]; rfl)) ?_; (with_reducible refine (spec_PictureOf.calls k _ _ t1359 _ _ t1362 t1365 t1366 _ ?side1 ?side2 ?side3 ?side4 A8.out).mono ?_); (case side1 => repeat (first | exact (Kd.R_reads' HO1361.out).2.2 | (with_reducible refine Kd.C_alloc ?_ _) | (with_reducible refine Kd.C_drewN ?_ _) | (with_reducible refine Kd.C_drew ?_))); (case side2 => exact (Kd.R_reads' HO1361.out).2.1); (case side3 => repeat (first | exact (Kd.S_reads' HO1364.out).2.2 | (with_reducible refine Kd.C_alloc ?_ _) | (with_reducible refine Kd.C_drewN ?_ _) | (with_reducible refine Kd.C_drew ?_))); (case side4 => exact (Kd.S_reads' HO1364.out).2.1); rintro e w23 ⟨rfl, hb⟩; refine ⟨_, rfl, ?_⟩; have n0_ := xm (Kd.R_below (by (with_reducible repeat (first | apply Kd.R_alloc | apply Kd.R_drewN | apply Kd.R_drew)); exact HO1361.out) hb); have n1_ := xm (Kd.S_below (by (with_reducible repeat (first | apply Kd.S_alloc | apply Kd.S_drewN | apply Kd.S_drew)); exact HO1364.out) hb); have n2_ := xm (blk_below (g := gb1357) (o := .cells #[.slice A0_0 l0_0.length c0_0, .slice A0_1 l0_1.length c0_1] 79 (0, 0)) (by (with_reducible repeat (first | refine xq ?_ _ | refine xr ?_ | refine xo ?_ _)); exact BK1357.out) hb); have n3_ := xm (below_step (by repeat (first | (with_reducible first | exact HB.out | apply xa | apply xn | apply xd | refine xt ?_ GE1357.out) | exact HB.out)) hb); clear HO1361; clear HO1364; clear BK1357; clear HB; have HO1361 := n0_; have HO1364 := n1_; have BK1357 := n2_; have HB := n3_; clear n0_ n1_ n2_ n3_; (try clear hb); (try clear hb2); (try clear hk); (try clear hi); have hcz24_0 : w23.cell? ⟨gb1357, 0, none⟩ = some (.slice A0_0 l0_0.length c0_0) := (xc BK1357.out 0).trans rfl; have hcz24_1 : w23.cell? ⟨gb1357, 1, none⟩ = some (.slice A0_1 l0_1.length c0_1) := (xc BK1357.out 1).trans rfl; have hfz24_0 := xf BK1357.out 0; have hfz24_1 := xf BK1357.out 1) | ((with_reducible refine gate_callee (f := 57) rfl ?_); refine goesL_ (some 21) rfl rfl Try.func57 (by kernel_rfl) rfl #[.agg #[.slice A0_0 l0_0.length c0_0, .slice A0_1 l0_1.length c0_1]] rfl (by (try simp only [List.map_toArray, List.map_cons, List.map_nil]); first | done | rfl | (simp only [List.length_drop, List.length_take]; rfl)) ?_; (with_reducible refine (laws_toSnap.calls k _ _ l0_0 _ _ l0_1 t1367 t1370 _ ?side1 ?side2 ?side3 ?side4 A9.out).mono ?_); (case side1 => repeat (first | exact (Kd.C_below HR0_0.out HB.out) | (with_reducible refine Kd.C_alloc ?_ _) | (with_reducible refine Kd.C_drewN ?_ _) | (with_reducible refine Kd.C_drew ?_))); (case side2 => exact HC0_0.out); (case side3 => repeat (first | exact (Kd.C_below HR0_1.out HB.out) | (with_reducible refine Kd.C_alloc ?_ _) | (with_reducible refine Kd.C_drewN ?_ _) | (with_reducible refine Kd.C_drew ?_))); (case side4 => exact HC0_1.out); rintro e w25 ⟨v1368, v1371, rfl, ho0, ho1, hb⟩; refine ⟨_, rfl, ?_⟩; have n0_ := xm (Kd.R_elder' (by (with_reducible repeat (first | apply Kd.R_alloc | apply Kd.R_drewN | apply Kd.R_drew)); exact HO1361.out) (Kd.R_base ho0) hb); have n1_ := xm (Kd.S_elder' (by (with_reducible repeat (first | apply Kd.S_alloc | apply Kd.S_drewN | apply Kd.S_drew)); exact HO1364.out) (Kd.S_base ho1) hb); have n2_ := xm (Kd.R_lower (Kd.R_new' ho0 (Kd.R_lt (by (with_reducible repeat (first | apply Kd.R_alloc | apply Kd.R_drewN | apply Kd.R_drew)); exact HO1361.out))) (xz (by repeat (first | (with_reducible first | exact HB.out | apply xa | apply xn | apply xd | refine xt ?_ GE1357.out) | exact HB.out)))); have n3_ := xm (Kd.S_lower (Kd.S_new' ho1 (Kd.S_lt (by (with_reducible repeat (first | apply Kd.S_alloc | apply Kd.S_drewN | apply Kd.S_drew)); exact HO1364.out))) (xz (by repeat (first | (with_reducible first | exact HB.out | apply xa | apply xn | apply xd | refine xt ?_ GE1357.out) | exact HB.out)))); have n4_ := xm (blk_below (g := gb1357) (o := .cells #[.slice A0_0 l0_0.length c0_0, .slice A0_1 l0_1.length c0_1] 79 (0, 0)) (by (with_reducible repeat (first | refine xq ?_ _ | refine xr ?_ | refine xo ?_ _)); exact BK1357.out) hb); have n5_ := xm (below_step (by repeat (first | (with_reducible first | exact HB.out | apply xa | apply xn | apply xd | refine xt ?_ GE1357.out) | exact HB.out)) hb); clear HO1361; clear HO1364; clear BK1357; clear HB; have HO1361 := n0_; have HO1364 := n1_; have HO1369 := n2_; have HO1372 := n3_; have BK1357 := n4_; have HB := n5_; clear n0_ n1_ n2_ n3_ n4_ n5_; (try clear hb); (try clear hb2); (try clear hk); (try clear hi); (try clear ho0); (try clear ho1)) | ((with_reducible refine gate_dst (N := 6) rfl ?_); refine box_event ?hg (N := 6) ?hd (cs := #[.slice none 0 0, .slice none 0 0]) (t := 85) ?hr ?_; (case hd => rfl); (case hg => rfl); (case hr => first | (go_simp; done) | (go_simp; rfl)); intro gb1373 hg w26 hbox hb; have n0_ := xm (Kd.R_below (by (with_reducible repeat (first | apply Kd.R_alloc | apply Kd.R_drewN | apply Kd.R_drew)); exact HO1361.out) hb); have n1_ := xm (Kd.S_below (by (with_reducible repeat (first | apply Kd.S_alloc | apply Kd.S_drewN | apply Kd.S_drew)); exact HO1364.out) hb); have n2_ := xm (Kd.R_below (by (with_reducible repeat (first | apply Kd.R_alloc | apply Kd.R_drewN | apply Kd.R_drew)); exact HO1369.out) hb); have n3_ := xm (Kd.S_below (by (with_reducible repeat (first | apply Kd.S_alloc | apply Kd.S_drewN | apply Kd.S_drew)); exact HO1372.out) hb); have n4_ := xm (blk_below (g := gb1357) (o := .cells #[.slice A0_0 l0_0.length c0_0, .slice A0_1 l0_1.length c0_1] 79 (0, 0)) (by (with_reducible repeat (first | refine xq ?_ _ | refine xr ?_ | refine xo ?_ _)); exact BK1357.out) hb); have n5_ := xm (below_step (by repeat (first | (with_reducible first | exact HB.out | apply xa | apply xn | apply xd | refine xt ?_ GE1357.out) | exact HB.out)) hb); have n6_ := xm (hbox); have n7_ := xm ((by rw [hg]; exact (xz (by repeat (first | (with_reducible first | exact HB.out | apply xa | apply xn | apply xd | refine xt ?_ GE1357.out) | exact HB.out))) : w.heap.size ≤ gb1373)); have n8_ := xm ((by rw [hg]; exact (xz (by repeat (first | (with_reducible first | exact HB.out | apply xa | apply xn | apply xd | refine xt ?_ GE1357.out) | exact HB.out))) : w.heap.size ≤ gb1373)); have n9_ := xm ((by rw [hg]; exact Nat.ne_of_lt (blk_lt (g := gb1357) (o := .cells #[.slice A0_0 l0_0.length c0_0, .slice A0_1 l0_1.length c0_1] 79 (0, 0)) (by (with_reducible repeat (first | refine xq ?_ _ | refine xr ?_ | refine xo ?_ _)); exact BK1357.out)) : gb1357 ≠ gb1373)); have n10_ := xm ((by rw [hg]; exact Nat.ne_of_gt (blk_lt (g := gb1357) (o := .cells #[.slice A0_0 l0_0.length c0_0, .slice A0_1 l0_1.length c0_1] 79 (0, 0)) (by (with_reducible repeat (first | refine xq ?_ _ | refine xr ?_ | refine xo ?_ _)); exact BK1357.out)) : gb1373 ≠ gb1357)); clear HO1361; clear HO1364; clear HO1369; clear HO1372; clear BK1357; clear HB; have HO1361 := n0_; have HO1364 := n1_; have HO1369 := n2_; have HO1372 := n3_; have BK1357 := n4_; have HB := n5_; have BK1373 := n6_; have GW1373 := n7_; have GE1373 := n8_; have NB1357_1373 := n9_; have NB1373_1357 := n10_; clear n0_ n1_ n2_ n3_ n4_ n5_ n6_ n7_ n8_ n9_ n10_; clear hb hbox hg; obtain ⟨Ao27, co27, eo27⟩ := Kd.R_slice HO1369.out; subst eo27; have hnb28 := NB1373_1357.out; have hnc28 := NB1357_1373.out; have hcz29_0 : w26.cell? ⟨gb1373, 0, none⟩ = some (.slice none 0 0) := (xc BK1373.out 0).trans rfl; have hcz29_1 : w26.cell? ⟨gb1373, 1, none⟩ = some (.slice none 0 0) := (xc BK1373.out 1).trans rfl; have hfz29_0 := xf BK1373.out 0; have hfz29_1 := xf BK1373.out 1; obtain ⟨Ao30, co30, eo30⟩ := Kd.S_slice HO1372.out; subst eo30) | ((with_reducible refine gate_callee (f := 81) rfl ?_); refine goesL_ (some 24) rfl rfl Try.func81 (by kernel_rfl) rfl #[.agg #[.slice Ao27 t1367.length co27, .slice Ao30 t1370.length co30]] rfl (by (try simp only [List.map_toArray, List.map_cons, List.map_nil]); first | done | rfl | (simp only [List.length_drop, List.length_take]; rfl)) ?_; (with_reducible refine (impl_PictureOf.calls k _ _ t1367 _ _ t1370 t1374 t1375 _ ?side1 ?side2 ?side3 ?side4 A10.out).mono ?_); (case side1 => refine (Kd.R_reads' (e := 138) (base := w.heap.size) (ok := fun k_ => (True ∧ some k_ ≠ (.slice Ao21 t1359.length co21 : Value).ownBlock)) (n := t1367.length) (c := co27) ?_).2.2; exact (by (with_reducible repeat (first | apply Kd.R_alloc | apply Kd.R_drewN | apply Kd.R_drew)); exact (Kd.R_mono (Kd.R_far (p := ⟨gb1373, 1, none⟩) (Kd.R_far (p := ⟨gb1373, 0, none⟩) (Kd.R_types HO1369.out BK1373.out (by decide)) (fun _ hk => hk.2) (.slice Ao27 t1367.length co27)) (fun _ hk => hk.2) (.slice Ao30 t1370.length co30)) (fun _ h_ => h_.1)))); (case side2 => exact (Kd.R_reads' HO1369.out).2.1); (case side3 => refine (Kd.S_reads' (e := 140) (base := w.heap.size) (ok := fun k_ => (True ∧ some k_ ≠ (.slice Ao22 t1362.length co22 : Value).ownBlock)) (n := t1370.length) (c := co30) ?_).2.2; exact (by (with_reducible repeat (first | apply Kd.S_alloc | apply Kd.S_drewN | apply Kd.S_drew)); exact (Kd.S_mono (Kd.S_far (p := ⟨gb1373, 1, none⟩) (Kd.S_far (p := ⟨gb1373, 0, none⟩) (Kd.S_types HO1372.out BK1373.out (by decide)) (fun _ hk => hk.2) (.slice Ao27 t1367.length co27)) (fun _ hk => hk.2) (.slice Ao30 t1370.length co30)) (fun _ h_ => h_.1)))); (case side4 => exact (Kd.S_reads' HO1372.out).2.1); rintro e w31 ⟨rfl, hb⟩; refine ⟨_, rfl, ?_⟩; have n0_ := xm (Kd.R_below (by (with_reducible repeat (first | apply Kd.R_alloc | apply Kd.R_drewN | apply Kd.R_drew)); exact (Kd.R_mono (Kd.R_far (p := ⟨gb1373, 1, none⟩) (Kd.R_far (p := ⟨gb1373, 0, none⟩) (Kd.R_types HO1361.out BK1373.out (by decide)) (fun _ hk => hk.2) (.slice Ao27 t1367.length co27)) (fun _ hk => hk.2) (.slice Ao30 t1370.length co30)) (fun _ h_ => h_.1))) hb); have n1_ := xm (Kd.S_below (by (with_reducible repeat (first | apply Kd.S_alloc | apply Kd.S_drewN | apply Kd.S_drew)); exact (Kd.S_mono (Kd.S_far (p := ⟨gb1373, 1, none⟩) (Kd.S_far (p := ⟨gb1373, 0, none⟩) (Kd.S_types HO1364.out BK1373.out (by decide)) (fun _ hk => hk.2) (.slice Ao27 t1367.length co27)) (fun _ hk => hk.2) (.slice Ao30 t1370.length co30)) (fun _ h_ => h_.1))) hb); have n2_ := xm (Kd.R_below (by (with_reducible repeat (first | apply Kd.R_alloc | apply Kd.R_drewN | apply Kd.R_drew)); exact (Kd.R_mono (Kd.R_far (p := ⟨gb1373, 1, none⟩) (Kd.R_far (p := ⟨gb1373, 0, none⟩) (Kd.R_types HO1369.out BK1373.out (by decide)) (fun _ hk => hk.2) (.slice Ao27 t1367.length co27)) (fun _ hk => hk.2) (.slice Ao30 t1370.length co30)) (fun _ h_ => h_.1))) hb); have n3_ := xm (Kd.S_below (by (with_reducible repeat (first | apply Kd.S_alloc | apply Kd.S_drewN | apply Kd.S_drew)); exact (Kd.S_mono (Kd.S_far (p := ⟨gb1373, 1, none⟩) (Kd.S_far (p := ⟨gb1373, 0, none⟩) (Kd.S_types HO1372.out BK1373.out (by decide)) (fun _ hk => hk.2) (.slice Ao27 t1367.length co27)) (fun _ hk => hk.2) (.slice Ao30 t1370.length co30)) (fun _ h_ => h_.1))) hb); have n4_ := xm (blk_below (g := gb1357) (o := .cells #[.slice A0_0 l0_0.length c0_0, .slice A0_1 l0_1.length c0_1] 79 (0, 0)) (by (with_reducible repeat (first | refine xq ?_ _ | refine xr ?_ | refine xo ?_ _)); refine blk_far ?_ NB1357_1373.out _; (with_reducible repeat (first | refine xq ?_ _ | refine xr ?_ | refine xo ?_ _)); refine blk_far ?_ NB1357_1373.out _; (with_reducible repeat (first | refine xq ?_ _ | refine xr ?_ | refine xo ?_ _)); exact BK1357.out) hb); have n5_ := xm (blk_below (g := gb1373) (o := .cells #[.slice Ao27 t1367.length co27, .slice Ao30 t1370.length co30] 85 (0, 0)) (by (with_reducible repeat (first | refine xq ?_ _ | refine xr ?_ | refine xo ?_ _)); refine blk_put (cs := #[.slice Ao27 t1367.length co27, .slice none 0 0]) ?_ 1 _ rfl; (with_reducible repeat (first | refine xq ?_ _ | refine xr ?_ | refine xo ?_ _)); refine blk_put (cs := #[.slice none 0 0, .slice none 0 0]) ?_ 0 _ rfl; (with_reducible repeat (first | refine xq ?_ _ | refine xr ?_ | refine xo ?_ _)); exact BK1373.out) hb); have n6_ := xm (below_step (by repeat (first | (with_reducible first | exact HB.out | apply xa | apply xn | apply xd | refine xt ?_ GE1357.out | refine xt ?_ GE1373.out) | exact HB.out)) hb); clear HO1361; clear HO1364; clear HO1369; clear HO1372; clear BK1357; clear BK1373; clear HB; have HO1361 := n0_; have HO1364 := n1_; have HO1369 := n2_; have HO1372 := n3_; have BK1357 := n4_; have BK1373 := n5_; have HB := n6_; clear n0_ n1_ n2_ n3_ n4_ n5_ n6_; (try clear hb); (try clear hb2); (try clear hk); (try clear hi)))
     have n0_ := xm (Kd.R_drew HO1361.out)
     have n1_ := xm (Kd.S_drew HO1364.out)
     have n2_ := xm (Kd.R_drew HO1369.out)
     have n3_ := xm (Kd.S_drew HO1372.out)
     have n4_ := xm (xr BK1357.out)
     have n5_ := xm (xr BK1373.out)
     have n6_ := xm (xd HB.out)
     clear HO1361
     clear HO1364
     clear HO1369
     clear HO1372
     clear BK1357
     clear BK1373
     clear HB
     have HO1361 := n0_
     have HO1364 := n1_
     have HO1369 := n2_
     have HO1372 := n3_
     have BK1357 := n4_
     have BK1373 := n5_
     have HB := n6_
     clear n0_ n1_ n2_ n3_ n4_ n5_ n6_
     refine start_ (n := 5) (S := fun w' => w'.cell? ⟨gb1373, 0, none⟩ = some (.slice Ao27 t1367.length co27) ∧ w'.cell? ⟨gb1373, 1, none⟩ = some (.slice Ao30 t1370.length co30) ∧ w'.cell? ⟨gb1357, 0, none⟩ = some (.slice A0_0 l0_0.length c0_0) ∧ w'.cell? ⟨gb1357, 1, none⟩ = some (.slice A0_1 l0_1.length c0_1)) (ds := []) #[false, false, false, false, false] (by kernel_rfl) rfl rfl ⟨(xc BK1373.out 0).trans rfl, (xc BK1373.out 1).trans rfl, (xc BK1357.out 0).trans rfl, (xc BK1357.out 1).trans rfl⟩ (fun hHeld => ?_)
     generalize w31.drew = w32 at HO1361 HO1364 HO1369 HO1372 BK1357 BK1373 HB hHeld ⊢
     refine take_ (i := 0) (N := some 35) (v := ?_) (a' := ?_) #[true, false, false, false, false] rfl rfl (by kernel_rfl) (fun _ _ _ h => h) (Or.inl ⟨by rfl, ?_⟩) hHeld ?_ ?_
     rotate_left
     ·rintro w' ⟨s0, s1, s2, s3⟩
      go_simp
      with_reducible rfl
     rotate_left
     ·simp only [Act.put, xi, xj, xk, i64_w, i32_w]
      rfl
     refine take_ (i := 1) (N := some 36) (v := ?_) (a' := ?_) #[true, true, false, false, false] rfl rfl (by kernel_rfl) (fun _ _ _ h => h) (Or.inl ⟨by rfl, ?_⟩) hHeld ?_ ?_
     rotate_left
     ·rintro w' ⟨s0, s1, s2, s3⟩
      go_simp
      with_reducible rfl
     rotate_left
     ·simp only [Act.put, xi, xj, xk, i64_w, i32_w]
      rfl
     refine one_ (i := 2) (N := some 37) #[true, true, true, false, false] rfl rfl (by kernel_rfl) (by decide) (fun K hK => ?_)
     refine goes_ Try.func57 (by kernel_rfl) rfl #[.agg #[.slice A0_0 l0_0.length c0_0, .slice A0_1 l0_1.length c0_1]] (by rfl) rfl rfl (by (try simp only [List.map_toArray, List.map_cons, List.map_nil]); first | done | rfl | (simp only [List.length_drop, List.length_take]; rfl)) ?_
     with_reducible refine (laws_toSnap.calls k _ _ l0_0 _ _ l0_1 t1376 t1379 _ ?side1 ?side2 ?side3 ?side4 A13.out).mono ?_
     (case side1 => repeat (first | exact (Kd.C_below HR0_0.out HB.out) | (with_reducible refine Kd.C_alloc ?_ _) | (with_reducible refine Kd.C_drewN ?_ _) | (with_reducible refine Kd.C_drew ?_)))
     (case side2 => exact HC0_0.out)
     (case side3 => repeat (first | exact (Kd.C_below HR0_1.out HB.out) | (with_reducible refine Kd.C_alloc ?_ _) | (with_reducible refine Kd.C_drewN ?_ _) | (with_reducible refine Kd.C_drew ?_)))
     (case side4 => exact HC0_1.out)
     rintro e w33 ⟨v1377, v1380, rfl, ho0, ho1, hb⟩
     refine ⟨_, rfl, ?_⟩
     have n0_ := xm (Kd.R_elder' (by (with_reducible repeat (first | apply Kd.R_alloc | apply Kd.R_drewN | apply Kd.R_drew)); exact HO1361.out) (Kd.R_base ho0) hb)
     have n1_ := xm (Kd.S_elder' (by (with_reducible repeat (first | apply Kd.S_alloc | apply Kd.S_drewN | apply Kd.S_drew)); exact HO1364.out) (Kd.S_base ho1) hb)
     have n2_ := xm (Kd.R_elder' (by (with_reducible repeat (first | apply Kd.R_alloc | apply Kd.R_drewN | apply Kd.R_drew)); exact HO1369.out) (Kd.R_base ho0) hb)
     have n3_ := xm (Kd.S_elder' (by (with_reducible repeat (first | apply Kd.S_alloc | apply Kd.S_drewN | apply Kd.S_drew)); exact HO1372.out) (Kd.S_base ho1) hb)
     have n4_ := xm (Kd.R_lower (Kd.R_new' (Kd.R_new' ho0 (Kd.R_lt (by (with_reducible repeat (first | apply Kd.R_alloc | apply Kd.R_drewN | apply Kd.R_drew)); exact HO1361.out))) (Kd.R_lt (by (with_reducible repeat (first | apply Kd.R_alloc | apply Kd.R_drewN | apply Kd.R_drew)); exact HO1369.out))) (xz (by repeat (first | (with_reducible first | exact HB.out | apply xa | apply xn | apply xd | refine xt ?_ GE1357.out | refine xt ?_ GE1373.out) | exact HB.out))))
     have n5_ := xm (Kd.S_lower (Kd.S_new' (Kd.S_new' ho1 (Kd.S_lt (by (with_reducible repeat (first | apply Kd.S_alloc | apply Kd.S_drewN | apply Kd.S_drew)); exact HO1364.out))) (Kd.S_lt (by (with_reducible repeat (first | apply Kd.S_alloc | apply Kd.S_drewN | apply Kd.S_drew)); exact HO1372.out))) (xz (by repeat (first | (with_reducible first | exact HB.out | apply xa | apply xn | apply xd | refine xt ?_ GE1357.out | refine xt ?_ GE1373.out) | exact HB.out))))
     have n6_ := xm (blk_below (g := gb1357) (o := .cells #[.slice A0_0 l0_0.length c0_0, .slice A0_1 l0_1.length c0_1] 79 (0, 0)) (by (with_reducible repeat (first | refine xq ?_ _ | refine xr ?_ | refine xo ?_ _)); exact BK1357.out) hb)
     have n7_ := xm (blk_below (g := gb1373) (o := .cells #[.slice Ao27 t1367.length co27, .slice Ao30 t1370.length co30] 85 (0, 0)) (by (with_reducible repeat (first | refine xq ?_ _ | refine xr ?_ | refine xo ?_ _)); exact BK1373.out) hb)
     have n8_ := xm (below_step (by repeat (first | (with_reducible first | exact HB.out | apply xa | apply xn | apply xd | refine xt ?_ GE1357.out | refine xt ?_ GE1373.out) | exact HB.out)) hb)
     clear HO1361
     clear HO1364
     clear HO1369
     clear HO1372
     clear BK1357
     clear BK1373
     clear HB
     have HO1361 := n0_
     have HO1364 := n1_
     have HO1369 := n2_
     have HO1372 := n3_
     have HO1378 := n4_
     have HO1381 := n5_
     have BK1357 := n6_
     have BK1373 := n7_
     have HB := n8_
     clear n0_ n1_ n2_ n3_ n4_ n5_ n6_ n7_ n8_
     (try clear hb)
     (try clear hb2)
     (try clear hk)
     (try clear hi)
     (try clear ho0)
     (try clear ho1)
     obtain ⟨Ao34, co34, eo34⟩ := Kd.R_slice HO1378.out
     (first | subst eo34 | (injection eo34 with f1_ f2_ f3_; have f4_ := f1_.symm; have f5_ := f3_.symm; clear f1_ f2_ f3_; subst f4_; subst f5_))
     obtain ⟨Ao35, co35, eo35⟩ := Kd.S_slice HO1381.out
     (first | subst eo35 | (injection eo35 with f1_ f2_ f3_; have f4_ := f1_.symm; have f5_ := f3_.symm; clear f1_ f2_ f3_; subst f4_; subst f5_))
     refine hK.out _ _ ⟨(xc BK1373.out 0).trans rfl, (xc BK1373.out 1).trans rfl, (xc BK1357.out 0).trans rfl, (xc BK1357.out 1).trans rfl⟩ (fun hHeld => ?_)
     clear hK K
     refine norm_ (a' := ?_) ?_ ?_
     rotate_left
     ·show Act.put _ (some 37) _ = _
      simp only [Act.put, xi, xj, xk, i64_w, i32_w]
      rfl
     refine one_ (i := 3) (N := some 38) #[true, true, true, true, false] rfl rfl (by kernel_rfl) (by decide) (fun K hK => ?_)
     refine goes_ Try.func59 (by kernel_rfl) rfl #[.agg #[.slice Ao27 t1367.length co27, .slice Ao30 t1370.length co30], .agg #[.slice Ao34 t1376.length co34, .slice Ao35 t1379.length co35]] (by rfl) rfl rfl (by (try simp only [List.map_toArray, List.map_cons, List.map_nil]); first | done | rfl | (simp only [List.length_drop, List.length_take]; rfl)) ?_
     with_reducible refine (laws_eqSnap.calls k _ _ t1367 _ _ t1370 _ _ t1376 _ _ t1379 true _ ?side1 ?side2 ?side3 ?side4 ?side5 ?side6 ?side7 ?side8 A14.out).mono ?_
     (case side1 => repeat (first | exact (Kd.R_reads' HO1369.out).2.2 | (with_reducible refine Kd.C_alloc ?_ _) | (with_reducible refine Kd.C_drewN ?_ _) | (with_reducible refine Kd.C_drew ?_)))
     (case side2 => exact (Kd.R_reads' HO1369.out).2.1)
     (case side3 => repeat (first | exact (Kd.S_reads' HO1372.out).2.2 | (with_reducible refine Kd.C_alloc ?_ _) | (with_reducible refine Kd.C_drewN ?_ _) | (with_reducible refine Kd.C_drew ?_)))
     (case side4 => exact (Kd.S_reads' HO1372.out).2.1)
     (case side5 => repeat (first | exact (Kd.R_reads' HO1378.out).2.2 | (with_reducible refine Kd.C_alloc ?_ _) | (with_reducible refine Kd.C_drewN ?_ _) | (with_reducible refine Kd.C_drew ?_)))
     (case side6 => exact (Kd.R_reads' HO1378.out).2.1)
     (case side7 => repeat (first | exact (Kd.S_reads' HO1381.out).2.2 | (with_reducible refine Kd.C_alloc ?_ _) | (with_reducible refine Kd.C_drewN ?_ _) | (with_reducible refine Kd.C_drew ?_)))
     (case side8 => exact (Kd.S_reads' HO1381.out).2.1)
     rintro e w36 ⟨rfl, hb⟩
     refine ⟨_, rfl, ?_⟩
     have n0_ := xm (Kd.R_below (by (with_reducible repeat (first | apply Kd.R_alloc | apply Kd.R_drewN | apply Kd.R_drew)); exact HO1361.out) hb)
     have n1_ := xm (Kd.S_below (by (with_reducible repeat (first | apply Kd.S_alloc | apply Kd.S_drewN | apply Kd.S_drew)); exact HO1364.out) hb)
     have n2_ := xm (Kd.R_below (by (with_reducible repeat (first | apply Kd.R_alloc | apply Kd.R_drewN | apply Kd.R_drew)); exact HO1369.out) hb)
     have n3_ := xm (Kd.S_below (by (with_reducible repeat (first | apply Kd.S_alloc | apply Kd.S_drewN | apply Kd.S_drew)); exact HO1372.out) hb)
     have n4_ := xm (Kd.R_below (by (with_reducible repeat (first | apply Kd.R_alloc | apply Kd.R_drewN | apply Kd.R_drew)); exact HO1378.out) hb)
     have n5_ := xm (Kd.S_below (by (with_reducible repeat (first | apply Kd.S_alloc | apply Kd.S_drewN | apply Kd.S_drew)); exact HO1381.out) hb)
     have n6_ := xm (blk_below (g := gb1357) (o := .cells #[.slice A0_0 l0_0.length c0_0, .slice A0_1 l0_1.length c0_1] 79 (0, 0)) (by (with_reducible repeat (first | refine xq ?_ _ | refine xr ?_ | refine xo ?_ _)); exact BK1357.out) hb)
     have n7_ := xm (blk_below (g := gb1373) (o := .cells #[.slice Ao27 t1367.length co27, .slice Ao30 t1370.length co30] 85 (0, 0)) (by (with_reducible repeat (first | refine xq ?_ _ | refine xr ?_ | refine xo ?_ _)); exact BK1373.out) hb)
     have n8_ := xm (below_step (by repeat (first | (with_reducible first | exact HB.out | apply xa | apply xn | apply xd | refine xt ?_ GE1357.out | refine xt ?_ GE1373.out) | exact HB.out)) hb)
     clear HO1361
     clear HO1364
     clear HO1369
     clear HO1372
     clear HO1378
     clear HO1381
     clear BK1357
     clear BK1373
     clear HB
     have HO1361 := n0_
     have HO1364 := n1_
     have HO1369 := n2_
     have HO1372 := n3_
     have HO1378 := n4_
     have HO1381 := n5_
     have BK1357 := n6_
     have BK1373 := n7_
     have HB := n8_
     clear n0_ n1_ n2_ n3_ n4_ n5_ n6_ n7_ n8_
     (try clear hb)
     (try clear hb2)
     (try clear hk)
     (try clear hi)
     refine hK.out _ _ ⟨(xc BK1373.out 0).trans rfl, (xc BK1373.out 1).trans rfl, (xc BK1357.out 0).trans rfl, (xc BK1357.out 1).trans rfl⟩ (fun hHeld => ?_)
     clear hK K
     refine norm_ (a' := ?_) ?_ ?_
     rotate_left
     ·show Act.put _ (some 38) _ = _
      simp only [Act.put, xi, xj, xk, i64_w, i32_w]
      rfl
     refine pure_ (i := 4) (N := some 39) (v := ?_) (a' := ?_) #[true, true, true, true, true] rfl rfl (by kernel_rfl) (fun _ _ _ h => h) (Or.inl ⟨by rfl, ?_⟩) ?_ ?_
     rotate_left
     ·intro w'
      go_simp
      with_reducible rfl
     rotate_left
     ·simp only [Act.put, xi, xj, xk, i64_w, i32_w]
      rfl
     refine done_ (by kernel_rfl) ?_
     try go_wp2
     go_ret
     exact ⟨by first | rfl | (simp [errW_none, errW_some] <;> rfl) | (simp [*, errW_none, errW_some] <;> rfl), by repeat (first | (with_reducible first | exact HB.out | apply xa | apply xn | apply xd | refine xt ?_ GE1357.out | refine xt ?_ GE1373.out) | exact HB.out)⟩
    ·replace c15 := Bool.eq_false_iff.mpr c15
     subst c15
     have H1 : (some false) = some true := by first | (with_reducible rfl) | (rw [if_neg (show ¬ (false = true) by decide)] at H; exact H)
     clear H
     have H := H1
     clear H1
     exact absurd H (by simp)
  ·rw [if_neg c11] at H
   have c11b0 : (t1374 == t1365) = false := beq_eq_false_iff_ne.mpr c11
   have c11b1 : (t1374 != t1365) = true := bne_iff_ne.mpr c11
   exact absurd H (by simp)

/-- THE ONE PURE STATEMENT of laws_FnExactPictureOf. -/
def laws_FnExactPictureOf.Pure : Prop := ∀ x0 : S79, wf79 x0 → ∃ k, laws_FnExactPictureOf.f k x0.f0 x0.f1 = some true

end Go.Proofs.Ytpbpglbldgpckaa.G
