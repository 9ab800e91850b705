/- Written by a program of this claim's own, out of the translation: functions of the program as plain functions, and that the calls answer as these. No conditions. -/
import Derived.Test.YtpbpglbldgpckaaG0
import Derived.Test.YtpbpglbldgpckaaG48
namespace Go.Proofs.Ytpbpglbldgpckaa.G
open Go.RowKit Go.Proofs.Ytpbpglbldgpckaa.X Go.Proofs.YtpbpglbldgpckaaW.PrintWords Go.Proofs.YtpbpglbldgpckaaW.PrintLast Go.Proofs.YtpbpglbldgpckaaW.PrintMore
attribute [local go_sem] max2_int min2_int max_two min_two max_three min_three max_four min_four   -- for this text's walks alone
set_option linter.unusedVariables false
set_option linter.unusedSimpArgs false

/-! ### spec_PictureOf: function 80 -/
mutual
def spec_PictureOf.l0 : Nat → Int → List (S138) → Int → Int → List (S138) → List (S140) → Option (Int × Bool)
 | 0, _, _, _, _, _, _ => none
 | k + 1, x4, x15, x16, x17, x1341000, x1341001 => if x17 < x16 then (if 0 ≤ x17 then (if x17 < (x15.length : Int) then (if ((rd_T138 x15 x17).f2 = true) then (spec_PictureOf.l0 k (wrap64 (x4 + ((rd_T138 x15 x17).f1))) x15 x16 (wrap64 (x17 + 1)) x1341000 x1341001) else (some (0, false))) else (none)) else (none)) else (spec_PictureOf.l1 k x4 x1341001 (x1341001.length : Int) 0)
def spec_PictureOf.l1 : Nat → Int → List (S140) → Int → Int → Option (Int × Bool)
 | 0, _, _, _, _ => none
 | k + 1, x4, x30, x31, x32 => if x32 < x31 then (if 0 ≤ x32 then (if x32 < (x30.length : Int) then (if (rd_T140 x30 x32).f2 = true then (some (0, false)) else (spec_PictureOf.l2 k x4 x30 x31 x32 ((rd_T140 x30 x32).f1) (((rd_T140 x30 x32).f1).length : Int) 0)) else (none)) else (none)) else (some (x4, true))
def spec_PictureOf.l2 : Nat → Int → List (S140) → Int → Int → List Int → Int → Int → Option (Int × Bool)
 | 0, _, _, _, _, _, _, _ => none
 | k + 1, x4, x30, x31, x32, x39, x40, x41 => if x41 < x40 then (if 0 ≤ x41 then (if x41 < (x39.length : Int) then (spec_PictureOf.l2 k (wrap64 (x4 + (rd x39 x41))) x30 x31 x32 x39 x40 (wrap64 (x41 + 1))) else (none)) else (none)) else (spec_PictureOf.l1 k x4 x30 x31 (wrap64 (x32 + 1)))
end
def spec_PictureOf.f (k : Nat) (l0_0 : List (S138)) (l0_1 : List (S140)) : Option (Int × Bool) := (spec_GoodSnap.f k l0_0 l0_1).bind fun t1341 => (if t1341 = true then (spec_PictureOf.l0 k 0 l0_0 (l0_0.length : Int) 0 l0_0 l0_1) else (some (0, false)))
theorem spec_PictureOf.mono_l : ∀ k, (∀ y0 y1 y2 y3 y4 y5, LeO (spec_PictureOf.l0 k y0 y1 y2 y3 y4 y5) (spec_PictureOf.l0 (k + 1) y0 y1 y2 y3 y4 y5)) ∧ (∀ y0 y1 y2 y3, LeO (spec_PictureOf.l1 k y0 y1 y2 y3) (spec_PictureOf.l1 (k + 1) y0 y1 y2 y3)) ∧ (∀ y0 y1 y2 y3 y4 y5 y6, LeO (spec_PictureOf.l2 k y0 y1 y2 y3 y4 y5 y6) (spec_PictureOf.l2 (k + 1) y0 y1 y2 y3 y4 y5 y6))
 | 0 => ⟨fun _ _ _ _ _ _ r h => by simp [spec_PictureOf.l0] at h, fun _ _ _ _ r h => by simp [spec_PictureOf.l1] at h, fun _ _ _ _ _ _ _ r h => by simp [spec_PictureOf.l2] at h⟩
 | k + 1 => by
  obtain ⟨ih0, ih1, ih2⟩ := spec_PictureOf.mono_l k
  refine ⟨?_, ?_, ?_⟩
  ·intro y0 y1 y2 y3 y4 y5
   unfold spec_PictureOf.l0
   repeat' first
   | (with_reducible exact ih0 _ _ _ _ _ _)
   | (with_reducible exact ih1 _ _ _ _)
   | (with_reducible exact ih2 _ _ _ _ _ _ _)
   | (with_reducible exact spec_GoodSnap.mono _ _ _)
   | (with_reducible exact LeO.refl _)
   | (with_reducible exact LeO.none _)
   | (with_reducible refine LeO.ite ?_ ?_)
   | (with_reducible refine LeO.bind ?_ (fun _ => ?_))
   | exact ih0 _ _ _ _ _ _
   | exact ih1 _ _ _ _
   | exact ih2 _ _ _ _ _ _ _
   | exact spec_GoodSnap.mono _ _ _
   | exact LeO.none _
   | refine LeO.ite ?_ ?_
   | refine LeO.bind ?_ (fun _ => ?_)
  ·intro y0 y1 y2 y3
   unfold spec_PictureOf.l1
   repeat' first
   | (with_reducible exact ih0 _ _ _ _ _ _)
   | (with_reducible exact ih1 _ _ _ _)
   | (with_reducible exact ih2 _ _ _ _ _ _ _)
   | (with_reducible exact spec_GoodSnap.mono _ _ _)
   | (with_reducible exact LeO.refl _)
   | (with_reducible exact LeO.none _)
   | (with_reducible refine LeO.ite ?_ ?_)
   | (with_reducible refine LeO.bind ?_ (fun _ => ?_))
   | exact ih0 _ _ _ _ _ _
   | exact ih1 _ _ _ _
   | exact ih2 _ _ _ _ _ _ _
   | exact spec_GoodSnap.mono _ _ _
   | exact LeO.none _
   | refine LeO.ite ?_ ?_
   | refine LeO.bind ?_ (fun _ => ?_)
  ·intro y0 y1 y2 y3 y4 y5 y6
   unfold spec_PictureOf.l2
   repeat' first
   | (with_reducible exact ih0 _ _ _ _ _ _)
   | (with_reducible exact ih1 _ _ _ _)
   | (with_reducible exact ih2 _ _ _ _ _ _ _)
   | (with_reducible exact spec_GoodSnap.mono _ _ _)
   | (with_reducible exact LeO.refl _)
   | (with_reducible exact LeO.none _)
   | (with_reducible refine LeO.ite ?_ ?_)
   | (with_reducible refine LeO.bind ?_ (fun _ => ?_))
   | exact ih0 _ _ _ _ _ _
   | exact ih1 _ _ _ _
   | exact ih2 _ _ _ _ _ _ _
   | exact spec_GoodSnap.mono _ _ _
   | exact LeO.none _
   | refine LeO.ite ?_ ?_
   | refine LeO.bind ?_ (fun _ => ?_)
theorem spec_PictureOf.mono : ∀ a0 a1 k, LeO (spec_PictureOf.f k a0 a1) (spec_PictureOf.f (k + 1) a0 a1) := by
 intro a0 a1 k
 obtain ⟨ih0, ih1, ih2⟩ := spec_PictureOf.mono_l k
 unfold spec_PictureOf.f
 repeat' first
   | (with_reducible exact ih0 _ _ _ _ _ _)
   | (with_reducible exact ih1 _ _ _ _)
   | (with_reducible exact ih2 _ _ _ _ _ _ _)
   | (with_reducible exact spec_GoodSnap.mono _ _ _)
   | (with_reducible exact LeO.refl _)
   | (with_reducible exact LeO.none _)
   | (with_reducible refine LeO.ite ?_ ?_)
   | (with_reducible refine LeO.bind ?_ (fun _ => ?_))
   | exact ih0 _ _ _ _ _ _
   | exact ih1 _ _ _ _
   | exact ih2 _ _ _ _ _ _ _
   | exact spec_GoodSnap.mono _ _ _
   | exact LeO.none _
   | refine LeO.ite ?_ ?_
   | refine LeO.bind ?_ (fun _ => ?_)
set_option maxHeartbeats 8000000 in
set_option maxRecDepth 100000 in
theorem spec_PictureOf.calls (k : Nat) (A0_0 : Option Addr) (c0_0 : Nat) (l0_0 : List (S138)) (A0_1 : Option Addr) (c0_1 : Nat) (l0_1 : List (S140)) (r1 : Int) (r2 : Bool) (w : World) (hr0_0 : Kd.C k138 w A0_0 l0_0.length l0_0) (hc0_0 : l0_0.length ≤ c0_0) (hr0_1 : Kd.C k140 w A0_1 l0_1.length l0_1) (hc0_1 : l0_1.length ≤ c0_1) (h : spec_PictureOf.f k l0_0 l0_1 = some (r1, r2)) :
  Calls Try.prog 80 #[.agg #[.slice A0_0 l0_0.length c0_0, .slice A0_1 l0_1.length c0_1]] w fun e w' => e = .returned (.tuple #[.int .i64 r1, .bool r2]) ∧ Below w.heap.size w w' := by
 have hu85 := Try.underlying85
 have hu138 := Try.underlying138
 have hu140 := Try.underlying140
 have HR0_0 := xm hr0_0
 have HC0_0 := xm hc0_0
 clear hr0_0 hc0_0
 have HR0_1 := xm hr0_1
 have HC0_1 := xm hc0_1
 clear hr0_1 hc0_1
 have HB := xm (Below.refl w.heap.size w)
 have H : ((spec_GoodSnap.f k l0_0 l0_1).bind fun t1341 => (if t1341 = true then (spec_PictureOf.l0 k 0 l0_0 (l0_0.length : Int) 0 l0_0 l0_1) else (some (0, false)))) = some (r1, r2) := h
 clear h
 replace H := Option.bind_eq_some_iff.mp H
 obtain ⟨t1341, A20, H⟩ := H
 replace H : (if t1341 = true then (spec_PictureOf.l0 k 0 l0_0 (l0_0.length : Int) 0 l0_0 l0_1) else (some (0, false))) = some (r1, r2) := H
 have A2 := xm A20
 clear A20
 by_cases c3 : t1341 = true
 ·subst c3
  have H1 : (spec_PictureOf.l0 k 0 l0_0 (l0_0.length : Int) 0 l0_0 l0_1) = some (r1, r2) := by first | (with_reducible rfl) | (rw [if_pos rfl] at H; exact H)
  clear H
  have H := H1
  clear H1
  have H' := xm H
  clear H
  go_enter Try.func80, Try.ntmps80
  go_wp2_with (first | ((with_reducible refine gate_dst (N := 1) rfl ?_); refine box_event ?hg (N := 1) ?hd (cs := #[.slice A0_0 l0_0.length c0_0, .slice A0_1 l0_1.length c0_1]) (t := 85) ?hr ?_; (case hd => rfl); (case hg => rfl); (case hr => first | (go_simp; done) | (go_simp; rfl)); intro gb1340 hg w4 hbox hb; have n0_ := xm (below_step (by repeat (first | (with_reducible first | exact HB.out | apply xa | apply xn | apply xd) | exact HB.out)) hb); have n1_ := xm (hbox); have n2_ := xm ((by rw [hg]; exact (xz (by repeat (first | (with_reducible first | exact HB.out | apply xa | apply xn | apply xd) | exact HB.out))) : w.heap.size ≤ gb1340)); have n3_ := xm ((by rw [hg]; exact (xz (by repeat (first | (with_reducible first | exact HB.out | apply xa | apply xn | apply xd) | exact HB.out))) : w.heap.size ≤ gb1340)); clear HB; have HB := n0_; have BK1340 := n1_; have GW1340 := n2_; have GE1340 := n3_; clear n0_ n1_ n2_ n3_; clear hb hbox hg; have hcz5_0 : w4.cell? ⟨gb1340, 0, none⟩ = some (.slice A0_0 l0_0.length c0_0) := (xc BK1340.out 0).trans rfl; have hcz5_1 : w4.cell? ⟨gb1340, 1, none⟩ = some (.slice A0_1 l0_1.length c0_1) := (xc BK1340.out 1).trans rfl; have hfz5_0 := xf BK1340.out 0; have hfz5_1 := xf BK1340.out 1) | ((with_reducible refine gate_callee (f := 56) rfl ?_); refine goesL_ (some 12) rfl rfl Try.func56 (by kernel_rfl) rfl #[.agg #[.slice A0_0 l0_0.length c0_0, .slice A0_1 l0_1.length c0_1]] rfl (by (try simp only [List.map_toArray, List.map_cons, List.map_nil]); first | done | rfl | (simp only [List.length_drop, List.length_take]; rfl)) ?_; (with_reducible refine (spec_GoodSnap.calls k _ _ l0_0 _ _ l0_1 true _ ?side1 ?side2 ?side3 ?side4 A2.out).mono ?_); (case side1 => repeat (first | exact (Kd.C_below HR0_0.out HB.out) | (with_reducible refine Kd.C_alloc ?_ _) | (with_reducible refine Kd.C_drewN ?_ _) | (with_reducible refine Kd.C_drew ?_))); (case side2 => exact HC0_0.out); (case side3 => repeat (first | exact (Kd.C_below HR0_1.out HB.out) | (with_reducible refine Kd.C_alloc ?_ _) | (with_reducible refine Kd.C_drewN ?_ _) | (with_reducible refine Kd.C_drew ?_))); (case side4 => exact HC0_1.out); rintro e w6 ⟨rfl, hb⟩; refine ⟨_, rfl, ?_⟩; have n0_ := xm (blk_below (g := gb1340) (o := .cells #[.slice A0_0 l0_0.length c0_0, .slice A0_1 l0_1.length c0_1] 85 (0, 0)) (by (with_reducible repeat (first | refine xq ?_ _ | refine xr ?_ | refine xo ?_ _)); exact BK1340.out) hb); have n1_ := xm (below_step (by repeat (first | (with_reducible first | exact HB.out | apply xa | apply xn | apply xd | refine xt ?_ GE1340.out) | exact HB.out)) hb); clear BK1340; clear HB; have BK1340 := n0_; have HB := n1_; clear n0_ n1_; (try clear hb); (try clear hb2); (try clear hk); (try clear hi); have hcz7_0 : w6.cell? ⟨gb1340, 0, none⟩ = some (.slice A0_0 l0_0.length c0_0) := (xc BK1340.out 0).trans rfl; have hcz7_1 : w6.cell? ⟨gb1340, 1, none⟩ = some (.slice A0_1 l0_1.length c0_1) := (xc BK1340.out 1).trans rfl; have hfz7_0 := xf BK1340.out 0; have hfz7_1 := xf BK1340.out 1))
  go_loopg [4, 17] k (fun kq v4 v17 w' => ∃ (x4_1 : Int) (x17_1 : Int), v4 = .int .i64 x4_1 ∧ v17 = .int .i64 x17_1 ∧ Aside0 (spec_PictureOf.l0 kq x4_1 l0_0 (l0_0.length : Int) x17_1 l0_0 l0_1 = some (r1, r2)) ∧ Aside0 (kq ≤ k) ∧ Aside0 (w'.heap[gb1340]? = some (.cells #[(.slice A0_0 l0_0.length c0_0), (.slice A0_1 l0_1.length c0_1)] 85 (0, 0))) ∧ Aside0 (Below w.heap.size w w'))
  case atStart => exact ⟨(0), (0), (by first | rfl | (simp; done) | (simp [*]; done)), (by first | rfl | (simp; done) | (simp [*]; done)), H', ⟨Nat.le_refl _⟩, ⟨by (with_reducible repeat (first | refine xq ?_ _ | refine xr ?_ | refine xo ?_ _)); exact BK1340.out⟩, ⟨by repeat (first | (with_reducible first | exact HB.out | apply xa | apply xn | apply xd | refine xt ?_ GE1340.out) | exact HB.out)⟩⟩
  case round =>
   clear H'
   try clear p2
   try clear c3
   try clear c5
   try clear hcz5_0
   try clear hcz5_1
   try clear hcz7_0
   try clear hcz7_1
   try clear hfz5_0
   try clear hfz5_1
   try clear hfz7_0
   try clear hfz7_1
   obtain ⟨x4_1, x17_1, rfl, rfl, HA, HK1, BK1340, HB⟩ := hrel
   cases gk with
   | zero => exact absurd HA.out (by simp [spec_PictureOf.l0])
   | succ k1 =>
    have H := HA.out
    clear HA
    simp only [spec_PictureOf.l0] at H
    by_cases c8 : x17_1 < (l0_0.length : Int)
    ·rw [if_pos c8] at H
     have c8b0 : decide (x17_1 < (l0_0.length : Int)) = true := decide_eq_true c8
     clear c8
     by_cases c9 : 0 ≤ x17_1
     ·rw [if_pos c9] at H
      have c9b0 : decide (0 ≤ x17_1) = true := decide_eq_true c9
      clear c9
      by_cases c10 : x17_1 < (l0_0.length : Int)
      ·rw [if_pos c10] at H
       have c10b0 : decide (x17_1 < (l0_0.length : Int)) = true := decide_eq_true c10
       clear c10
       obtain ⟨bq11, hbq11⟩ : ∃ b_ : Bool, b_ = ((rd_T138 l0_0 x17_1).f2) := ⟨_, rfl⟩
       replace H : (if (bq11 = true) then (spec_PictureOf.l0 k1 (wrap64 (x4_1 + ((rd_T138 l0_0 x17_1).f1))) l0_0 (l0_0.length : Int) (wrap64 (x17_1 + 1)) l0_0 l0_1) else (some (0, false))) = some (r1, r2) := by rw [← hbq11] at H; exact H
       have Nbq11 := xm hbq11
       clear hbq11
       by_cases c12 : (bq11 = true)
       ·subst c12
        have H1 : (spec_PictureOf.l0 k1 (wrap64 (x4_1 + ((rd_T138 l0_0 x17_1).f1))) l0_0 (l0_0.length : Int) (wrap64 (x17_1 + 1)) l0_0 l0_1) = some (r1, r2) := by first | (with_reducible rfl) | (rw [if_pos rfl] at H; exact H)
        clear H
        have H := H1
        clear H1
        have H' := xm H
        clear H
        have p1342 : 0 ≤ (x17_1 : Int) := of_decide_eq_true (by first | (with_reducible assumption) | assumption)
        have q1342 : x17_1 < (l0_0.length : Int) := of_decide_eq_true (by first | (with_reducible assumption) | assumption)
        obtain ⟨ad1342, e1342, hx1342_0, hx1342_1, hx1342_2⟩ := at_T138 HR0_0.out x17_1 p1342 q1342
        (try rw [← Nbq11.out] at hx1342_2)
        cases e1342
        replace hx1342_0 := (HB.out.cell (World.block_lt_of_cell? w _ hx1342_0)).trans hx1342_0
        replace hx1342_1 := (HB.out.cell (World.block_lt_of_cell? w _ hx1342_1)).trans hx1342_1
        replace hx1342_2 := (HB.out.cell (World.block_lt_of_cell? w _ hx1342_2)).trans hx1342_2
        replace p1342 := eq_true p1342
        replace q1342 := eq_true q1342
        go_wp2_with (first | ((with_reducible refine gate_dst (N := 6) rfl ?_); refine box_event ?hg (N := 6) ?hd (cs := #[.int .i64 0, .int .i64 0, .bool false]) (t := 138) ?hr ?_; (case hd => rfl); (case hg => rfl); (case hr => first | (go_simp; done) | (go_simp; rfl)); intro gb1343 hg w13 hbox hb; have n0_ := xm (blk_below (g := gb1340) (o := .cells #[.slice (some ad1342) l0_0.length c0_0, .slice A0_1 l0_1.length c0_1] 85 (0, 0)) (by (with_reducible repeat (first | refine xq ?_ _ | refine xr ?_ | refine xo ?_ _)); exact BK1340.out) hb); have n1_ := xm (below_step (by repeat (first | (with_reducible first | exact HB.out | apply xa | apply xn | apply xd | refine xt ?_ GE1340.out) | exact HB.out)) hb); have n2_ := xm (hbox); have n3_ := xm ((by rw [hg]; exact (xz (by repeat (first | (with_reducible first | exact HB.out | apply xa | apply xn | apply xd | refine xt ?_ GE1340.out) | exact HB.out))) : w.heap.size ≤ gb1343)); have n4_ := xm ((by rw [hg]; exact (xz (by repeat (first | (with_reducible first | exact HB.out | apply xa | apply xn | apply xd | refine xt ?_ GE1340.out) | exact HB.out))) : w.heap.size ≤ gb1343)); have n5_ := xm ((by rw [hg]; exact Nat.ne_of_lt (blk_lt (g := gb1340) (o := .cells #[.slice (some ad1342) l0_0.length c0_0, .slice A0_1 l0_1.length c0_1] 85 (0, 0)) (by (with_reducible repeat (first | refine xq ?_ _ | refine xr ?_ | refine xo ?_ _)); exact BK1340.out)) : gb1340 ≠ gb1343)); have n6_ := xm ((by rw [hg]; exact Nat.ne_of_gt (blk_lt (g := gb1340) (o := .cells #[.slice (some ad1342) l0_0.length c0_0, .slice A0_1 l0_1.length c0_1] 85 (0, 0)) (by (with_reducible repeat (first | refine xq ?_ _ | refine xr ?_ | refine xo ?_ _)); exact BK1340.out)) : gb1343 ≠ gb1340)); clear BK1340; clear HB; have BK1340 := n0_; have HB := n1_; have BK1343 := n2_; have GW1343 := n3_; have GE1343 := n4_; have NB1340_1343 := n5_; have NB1343_1340 := n6_; clear n0_ n1_ n2_ n3_ n4_ n5_ n6_; clear hb hbox hg; have hnb14 := NB1343_1340.out; have hnc14 := NB1340_1343.out; have hcz15_0 : w13.cell? ⟨gb1343, 0, none⟩ = some (.int .i64 0) := (xc BK1343.out 0).trans rfl; have hcz15_1 : w13.cell? ⟨gb1343, 1, none⟩ = some (.int .i64 0) := (xc BK1343.out 1).trans rfl; have hcz15_2 : w13.cell? ⟨gb1343, 2, none⟩ = some (.bool false) := (xc BK1343.out 2).trans rfl; have hfz15_0 := xf BK1343.out 0; have hfz15_1 := xf BK1343.out 1; have hfz15_2 := xf BK1343.out 2))
        go_roundg k1
        case measure => have := HK1.out; omega
        case rel => (try rw [← Nbq11.out]); exact ⟨(wrap64 (x4_1 + ((rd_T138 l0_0 x17_1).f1))), (wrap64 (x17_1 + 1)), (by first | rfl | (simp; done) | (simp [*]; done)), (by first | rfl | (simp; done) | (simp [*]; done)), H', ⟨by have := HK1.out; omega⟩, ⟨by (with_reducible repeat (first | refine xq ?_ _ | refine xr ?_ | refine xo ?_ _)); refine blk_far ?_ NB1340_1343.out _; (with_reducible repeat (first | refine xq ?_ _ | refine xr ?_ | refine xo ?_ _)); refine blk_far ?_ NB1340_1343.out _; (with_reducible repeat (first | refine xq ?_ _ | refine xr ?_ | refine xo ?_ _)); refine blk_far ?_ NB1340_1343.out _; (with_reducible repeat (first | refine xq ?_ _ | refine xr ?_ | refine xo ?_ _)); exact BK1340.out⟩, ⟨by repeat (first | (with_reducible first | exact HB.out | apply xa | apply xn | apply xd | refine xt ?_ GE1340.out | refine xt ?_ GE1343.out) | exact HB.out)⟩⟩
       ·replace c12 := Bool.eq_false_iff.mpr c12
        subst c12
        have H1 : (some (0, false)) = some (r1, r2) := by first | (with_reducible rfl) | (rw [if_neg (show ¬ (false = true) by decide)] at H; exact H)
        clear H
        have H := H1
        clear H1
        simp only [Option.some.injEq, Prod.mk.injEq] at H
        obtain ⟨rfl, rfl⟩ := H
        have p1342 : 0 ≤ (x17_1 : Int) := of_decide_eq_true (by first | (with_reducible assumption) | assumption)
        have q1342 : x17_1 < (l0_0.length : Int) := of_decide_eq_true (by first | (with_reducible assumption) | assumption)
        obtain ⟨ad1342, e1342, hx1342_0, hx1342_1, hx1342_2⟩ := at_T138 HR0_0.out x17_1 p1342 q1342
        (try rw [← Nbq11.out] at hx1342_2)
        cases e1342
        replace hx1342_0 := (HB.out.cell (World.block_lt_of_cell? w _ hx1342_0)).trans hx1342_0
        replace hx1342_1 := (HB.out.cell (World.block_lt_of_cell? w _ hx1342_1)).trans hx1342_1
        replace hx1342_2 := (HB.out.cell (World.block_lt_of_cell? w _ hx1342_2)).trans hx1342_2
        replace p1342 := eq_true p1342
        replace q1342 := eq_true q1342
        go_wp2_with (first | ((with_reducible refine gate_dst (N := 6) rfl ?_); refine box_event ?hg (N := 6) ?hd (cs := #[.int .i64 0, .int .i64 0, .bool false]) (t := 138) ?hr ?_; (case hd => rfl); (case hg => rfl); (case hr => first | (go_simp; done) | (go_simp; rfl)); intro gb1343 hg w16 hbox hb; have n0_ := xm (blk_below (g := gb1340) (o := .cells #[.slice (some ad1342) l0_0.length c0_0, .slice A0_1 l0_1.length c0_1] 85 (0, 0)) (by (with_reducible repeat (first | refine xq ?_ _ | refine xr ?_ | refine xo ?_ _)); exact BK1340.out) hb); have n1_ := xm (below_step (by repeat (first | (with_reducible first | exact HB.out | apply xa | apply xn | apply xd | refine xt ?_ GE1340.out) | exact HB.out)) hb); have n2_ := xm (hbox); have n3_ := xm ((by rw [hg]; exact (xz (by repeat (first | (with_reducible first | exact HB.out | apply xa | apply xn | apply xd | refine xt ?_ GE1340.out) | exact HB.out))) : w.heap.size ≤ gb1343)); have n4_ := xm ((by rw [hg]; exact (xz (by repeat (first | (with_reducible first | exact HB.out | apply xa | apply xn | apply xd | refine xt ?_ GE1340.out) | exact HB.out))) : w.heap.size ≤ gb1343)); have n5_ := xm ((by rw [hg]; exact Nat.ne_of_lt (blk_lt (g := gb1340) (o := .cells #[.slice (some ad1342) l0_0.length c0_0, .slice A0_1 l0_1.length c0_1] 85 (0, 0)) (by (with_reducible repeat (first | refine xq ?_ _ | refine xr ?_ | refine xo ?_ _)); exact BK1340.out)) : gb1340 ≠ gb1343)); have n6_ := xm ((by rw [hg]; exact Nat.ne_of_gt (blk_lt (g := gb1340) (o := .cells #[.slice (some ad1342) l0_0.length c0_0, .slice A0_1 l0_1.length c0_1] 85 (0, 0)) (by (with_reducible repeat (first | refine xq ?_ _ | refine xr ?_ | refine xo ?_ _)); exact BK1340.out)) : gb1343 ≠ gb1340)); clear BK1340; clear HB; have BK1340 := n0_; have HB := n1_; have BK1343 := n2_; have GW1343 := n3_; have GE1343 := n4_; have NB1340_1343 := n5_; have NB1343_1340 := n6_; clear n0_ n1_ n2_ n3_ n4_ n5_ n6_; clear hb hbox hg; have hnb17 := NB1343_1340.out; have hnc17 := NB1340_1343.out; have hcz18_0 : w16.cell? ⟨gb1343, 0, none⟩ = some (.int .i64 0) := (xc BK1343.out 0).trans rfl; have hcz18_1 : w16.cell? ⟨gb1343, 1, none⟩ = some (.int .i64 0) := (xc BK1343.out 1).trans rfl; have hcz18_2 : w16.cell? ⟨gb1343, 2, none⟩ = some (.bool false) := (xc BK1343.out 2).trans rfl; have hfz18_0 := xf BK1343.out 0; have hfz18_1 := xf BK1343.out 1; have hfz18_2 := xf BK1343.out 2))
        go_ret2
        exact ⟨by first | rfl | (simp [errW_none, errW_some] <;> rfl) | (simp [*, errW_none, errW_some] <;> rfl), by repeat (first | (with_reducible first | exact HB.out | apply xa | apply xn | apply xd | refine xt ?_ GE1340.out | refine xt ?_ GE1343.out) | exact HB.out)⟩
      ·rw [if_neg c10] at H
       exact absurd H (by simp)
     ·rw [if_neg c9] at H
      exact absurd H (by simp)
    ·rw [if_neg c8] at H
     have c8b0 : decide (x17_1 < (l0_0.length : Int)) = false := decide_eq_false c8
     clear c8
     have H' := xm H
     clear H
     have hcz19_0 : wr.cell? ⟨gb1340, 0, none⟩ = some (.slice A0_0 l0_0.length c0_0) := (xc BK1340.out 0).trans rfl
     have hcz19_1 : wr.cell? ⟨gb1340, 1, none⟩ = some (.slice A0_1 l0_1.length c0_1) := (xc BK1340.out 1).trans rfl
     have hfz19_0 := xf BK1340.out 0
     have hfz19_1 := xf BK1340.out 1
     go_wp2
     go_loopg [4, 32] k1 (fun kq v4 v32 w' => ∃ (x4_2 : Int) (x32_2 : Int), v4 = .int .i64 x4_2 ∧ v32 = .int .i64 x32_2 ∧ Aside0 (spec_PictureOf.l1 kq x4_2 l0_1 (l0_1.length : Int) x32_2 = some (r1, r2)) ∧ Aside0 (kq ≤ k1) ∧ Aside0 (w'.heap[gb1340]? = some (.cells #[(.slice A0_0 l0_0.length c0_0), (.slice A0_1 l0_1.length c0_1)] 85 (0, 0))) ∧ Aside0 (Below w.heap.size w w'))
     case atStart => exact ⟨(x4_1), (0), (by first | rfl | (simp; done) | (simp [*]; done)), (by first | rfl | (simp; done) | (simp [*]; done)), H', ⟨Nat.le_refl _⟩, ⟨by (with_reducible repeat (first | refine xq ?_ _ | refine xr ?_ | refine xo ?_ _)); exact BK1340.out⟩, ⟨by repeat (first | (with_reducible first | exact HB.out | apply xa | apply xn | apply xd | refine xt ?_ GE1340.out) | exact HB.out)⟩⟩
     case round =>
      clear H'
      try clear c1
      try clear p1
      try clear q1
      try clear hx1
      try clear p2
      try clear c3
      try clear c5
      try clear p6
      try clear c8
      try clear c8b0
      try clear c9
      try clear c9b0
      try clear c10
      try clear c10b0
      try clear q11
      try clear c12
      try clear p13
      try clear q13
      try clear hx13
      try clear c14
      try clear c17
      try clear hcz15_0
      try clear hcz15_1
      try clear hcz15_2
      try clear hcz18_0
      try clear hcz18_1
      try clear hcz18_2
      try clear hcz19_0
      try clear hcz19_1
      try clear hcz5_0
      try clear hcz5_1
      try clear hcz7_0
      try clear hcz7_1
      try clear hfz15_0
      try clear hfz15_1
      try clear hfz15_2
      try clear hfz18_0
      try clear hfz18_1
      try clear hfz18_2
      try clear hfz19_0
      try clear hfz19_1
      try clear hfz5_0
      try clear hfz5_1
      try clear hfz7_0
      try clear hfz7_1
      try clear hx1342_0
      try clear hx1342_1
      try clear hx1342_2
      try clear p1342
      try clear p2
      try clear q1342
      obtain ⟨x4_2, x32_2, rfl, rfl, HA, HK2, BK1340, HB⟩ := hrel
      cases gk with
      | zero => exact absurd HA.out (by simp [spec_PictureOf.l1])
      | succ k2 =>
       have H := HA.out
       clear HA
       simp only [spec_PictureOf.l1] at H
       by_cases c20 : x32_2 < (l0_1.length : Int)
       ·rw [if_pos c20] at H
        have c20b0 : decide (x32_2 < (l0_1.length : Int)) = true := decide_eq_true c20
        clear c20
        by_cases c21 : 0 ≤ x32_2
        ·rw [if_pos c21] at H
         have c21b0 : decide (0 ≤ x32_2) = true := decide_eq_true c21
         clear c21
         by_cases c22 : x32_2 < (l0_1.length : Int)
         ·rw [if_pos c22] at H
          have c22b0 : decide (x32_2 < (l0_1.length : Int)) = true := decide_eq_true c22
          clear c22
          obtain ⟨bq23, hbq23⟩ : ∃ b_ : Bool, b_ = ((rd_T140 l0_1 x32_2).f2) := ⟨_, rfl⟩
          replace H : (if bq23 = true then (some (0, false)) else (spec_PictureOf.l2 k2 x4_2 l0_1 (l0_1.length : Int) x32_2 ((rd_T140 l0_1 x32_2).f1) (((rd_T140 l0_1 x32_2).f1).length : Int) 0)) = some (r1, r2) := by rw [← hbq23] at H; exact H
          have Nbq23 := xm hbq23
          clear hbq23
          by_cases c24 : bq23 = true
          ·subst c24
           have H1 : (some (0, false)) = some (r1, r2) := by first | (with_reducible rfl) | (rw [if_pos rfl] at H; exact H)
           clear H
           have H := H1
           clear H1
           simp only [Option.some.injEq, Prod.mk.injEq] at H
           obtain ⟨rfl, rfl⟩ := H
           have p1344 : 0 ≤ (x32_2 : Int) := of_decide_eq_true (by first | (with_reducible assumption) | assumption)
           have q1344 : x32_2 < (l0_1.length : Int) := of_decide_eq_true (by first | (with_reducible assumption) | assumption)
           obtain ⟨ad1344, A1344_0, c1344_0, A1344_1, c1344_1, e1344, hx1344_0, hx1344_1, hx1344_2, hl1344_0, hi1344_0, hl1344_1, hi1344_1⟩ := at_T140 HR0_1.out x32_2 p1344 q1344
           (try rw [← Nbq23.out] at hx1344_2)
           cases e1344
           replace hx1344_0 := (HB.out.cell (World.block_lt_of_cell? w _ hx1344_0)).trans hx1344_0
           replace hx1344_1 := (HB.out.cell (World.block_lt_of_cell? w _ hx1344_1)).trans hx1344_1
           replace hx1344_2 := (HB.out.cell (World.block_lt_of_cell? w _ hx1344_2)).trans hx1344_2
           have HR1344_0 := xm hi1344_0
           have HC1344_0 := xm hl1344_0
           clear hi1344_0 hl1344_0
           have HR1344_1 := xm hi1344_1
           have HC1344_1 := xm hl1344_1
           clear hi1344_1 hl1344_1
           replace p1344 := eq_true p1344
           replace q1344 := eq_true q1344
           go_wp2_with (first | ((with_reducible refine gate_dst (N := 8) rfl ?_); refine box_event ?hg (N := 8) ?hd (cs := #[.slice none 0 0, .slice none 0 0, .bool false]) (t := 140) ?hr ?_; (case hd => rfl); (case hg => rfl); (case hr => first | (go_simp; done) | (go_simp; rfl)); intro gb1345 hg w25 hbox hb; have n0_ := xm (blk_below (g := gb1340) (o := .cells #[.slice A0_0 l0_0.length c0_0, .slice (some ad1344) l0_1.length c0_1] 85 (0, 0)) (by (with_reducible repeat (first | refine xq ?_ _ | refine xr ?_ | refine xo ?_ _)); exact BK1340.out) hb); have n1_ := xm (below_step (by repeat (first | (with_reducible first | exact HB.out | apply xa | apply xn | apply xd | refine xt ?_ GE1340.out) | exact HB.out)) hb); have n2_ := xm (hbox); have n3_ := xm ((by rw [hg]; exact (xz (by repeat (first | (with_reducible first | exact HB.out | apply xa | apply xn | apply xd | refine xt ?_ GE1340.out) | exact HB.out))) : w.heap.size ≤ gb1345)); have n4_ := xm ((by rw [hg]; exact (xz (by repeat (first | (with_reducible first | exact HB.out | apply xa | apply xn | apply xd | refine xt ?_ GE1340.out) | exact HB.out))) : w.heap.size ≤ gb1345)); have n5_ := xm ((by rw [hg]; exact Nat.ne_of_lt (blk_lt (g := gb1340) (o := .cells #[.slice A0_0 l0_0.length c0_0, .slice (some ad1344) l0_1.length c0_1] 85 (0, 0)) (by (with_reducible repeat (first | refine xq ?_ _ | refine xr ?_ | refine xo ?_ _)); exact BK1340.out)) : gb1340 ≠ gb1345)); have n6_ := xm ((by rw [hg]; exact Nat.ne_of_gt (blk_lt (g := gb1340) (o := .cells #[.slice A0_0 l0_0.length c0_0, .slice (some ad1344) l0_1.length c0_1] 85 (0, 0)) (by (with_reducible repeat (first | refine xq ?_ _ | refine xr ?_ | refine xo ?_ _)); exact BK1340.out)) : gb1345 ≠ gb1340)); clear BK1340; clear HB; have BK1340 := n0_; have HB := n1_; have BK1345 := n2_; have GW1345 := n3_; have GE1345 := n4_; have NB1340_1345 := n5_; have NB1345_1340 := n6_; clear n0_ n1_ n2_ n3_ n4_ n5_ n6_; clear hb hbox hg; have hnb26 := NB1345_1340.out; have hnc26 := NB1340_1345.out; have hcz27_0 : w25.cell? ⟨gb1345, 0, none⟩ = some (.slice none 0 0) := (xc BK1345.out 0).trans rfl; have hcz27_1 : w25.cell? ⟨gb1345, 1, none⟩ = some (.slice none 0 0) := (xc BK1345.out 1).trans rfl; have hcz27_2 : w25.cell? ⟨gb1345, 2, none⟩ = some (.bool false) := (xc BK1345.out 2).trans rfl; have hfz27_0 := xf BK1345.out 0; have hfz27_1 := xf BK1345.out 1; have hfz27_2 := xf BK1345.out 2))
           go_ret2
           exact ⟨by first | rfl | (simp [errW_none, errW_some] <;> rfl) | (simp [*, errW_none, errW_some] <;> rfl), by repeat (first | (with_reducible first | exact HB.out | apply xa | apply xn | apply xd | refine xt ?_ GE1340.out | refine xt ?_ GE1345.out) | exact HB.out)⟩
          ·replace c24 := Bool.eq_false_iff.mpr c24
           subst c24
           have H1 : (spec_PictureOf.l2 k2 x4_2 l0_1 (l0_1.length : Int) x32_2 ((rd_T140 l0_1 x32_2).f1) (((rd_T140 l0_1 x32_2).f1).length : Int) 0) = some (r1, r2) := by first | (with_reducible rfl) | (rw [if_neg (show ¬ (false = true) by decide)] at H; exact H)
           clear H
           have H := H1
           clear H1
           have H' := xm H
           clear H
           have p1344 : 0 ≤ (x32_2 : Int) := of_decide_eq_true (by first | (with_reducible assumption) | assumption)
           have q1344 : x32_2 < (l0_1.length : Int) := of_decide_eq_true (by first | (with_reducible assumption) | assumption)
           obtain ⟨ad1344, A1344_0, c1344_0, A1344_1, c1344_1, e1344, hx1344_0, hx1344_1, hx1344_2, hl1344_0, hi1344_0, hl1344_1, hi1344_1⟩ := at_T140 HR0_1.out x32_2 p1344 q1344
           (try rw [← Nbq23.out] at hx1344_2)
           cases e1344
           replace hx1344_0 := (HB.out.cell (World.block_lt_of_cell? w _ hx1344_0)).trans hx1344_0
           replace hx1344_1 := (HB.out.cell (World.block_lt_of_cell? w _ hx1344_1)).trans hx1344_1
           replace hx1344_2 := (HB.out.cell (World.block_lt_of_cell? w _ hx1344_2)).trans hx1344_2
           have HR1344_0 := xm hi1344_0
           have HC1344_0 := xm hl1344_0
           clear hi1344_0 hl1344_0
           have HR1344_1 := xm hi1344_1
           have HC1344_1 := xm hl1344_1
           clear hi1344_1 hl1344_1
           replace p1344 := eq_true p1344
           replace q1344 := eq_true q1344
           go_wp2_with (first | ((with_reducible refine gate_dst (N := 8) rfl ?_); refine box_event ?hg (N := 8) ?hd (cs := #[.slice none 0 0, .slice none 0 0, .bool false]) (t := 140) ?hr ?_; (case hd => rfl); (case hg => rfl); (case hr => first | (go_simp; done) | (go_simp; rfl)); intro gb1345 hg w28 hbox hb; have n0_ := xm (blk_below (g := gb1340) (o := .cells #[.slice A0_0 l0_0.length c0_0, .slice (some ad1344) l0_1.length c0_1] 85 (0, 0)) (by (with_reducible repeat (first | refine xq ?_ _ | refine xr ?_ | refine xo ?_ _)); exact BK1340.out) hb); have n1_ := xm (below_step (by repeat (first | (with_reducible first | exact HB.out | apply xa | apply xn | apply xd | refine xt ?_ GE1340.out) | exact HB.out)) hb); have n2_ := xm (hbox); have n3_ := xm ((by rw [hg]; exact (xz (by repeat (first | (with_reducible first | exact HB.out | apply xa | apply xn | apply xd | refine xt ?_ GE1340.out) | exact HB.out))) : w.heap.size ≤ gb1345)); have n4_ := xm ((by rw [hg]; exact (xz (by repeat (first | (with_reducible first | exact HB.out | apply xa | apply xn | apply xd | refine xt ?_ GE1340.out) | exact HB.out))) : w.heap.size ≤ gb1345)); have n5_ := xm ((by rw [hg]; exact Nat.ne_of_lt (blk_lt (g := gb1340) (o := .cells #[.slice A0_0 l0_0.length c0_0, .slice (some ad1344) l0_1.length c0_1] 85 (0, 0)) (by (with_reducible repeat (first | refine xq ?_ _ | refine xr ?_ | refine xo ?_ _)); exact BK1340.out)) : gb1340 ≠ gb1345)); have n6_ := xm ((by rw [hg]; exact Nat.ne_of_gt (blk_lt (g := gb1340) (o := .cells #[.slice A0_0 l0_0.length c0_0, .slice (some ad1344) l0_1.length c0_1] 85 (0, 0)) (by (with_reducible repeat (first | refine xq ?_ _ | refine xr ?_ | refine xo ?_ _)); exact BK1340.out)) : gb1345 ≠ gb1340)); clear BK1340; clear HB; have BK1340 := n0_; have HB := n1_; have BK1345 := n2_; have GW1345 := n3_; have GE1345 := n4_; have NB1340_1345 := n5_; have NB1345_1340 := n6_; clear n0_ n1_ n2_ n3_ n4_ n5_ n6_; clear hb hbox hg; have hnb29 := NB1345_1340.out; have hnc29 := NB1340_1345.out; have hcz30_0 : w28.cell? ⟨gb1345, 0, none⟩ = some (.slice none 0 0) := (xc BK1345.out 0).trans rfl; have hcz30_1 : w28.cell? ⟨gb1345, 1, none⟩ = some (.slice none 0 0) := (xc BK1345.out 1).trans rfl; have hcz30_2 : w28.cell? ⟨gb1345, 2, none⟩ = some (.bool false) := (xc BK1345.out 2).trans rfl; have hfz30_0 := xf BK1345.out 0; have hfz30_1 := xf BK1345.out 1; have hfz30_2 := xf BK1345.out 2))
           go_loopg [4, 41] k2 (fun kq v4 v41 w' => ∃ (x4_3 : Int) (x41_3 : Int), v4 = .int .i64 x4_3 ∧ v41 = .int .i64 x41_3 ∧ Aside0 (spec_PictureOf.l2 kq x4_3 l0_1 (l0_1.length : Int) x32_2 ((rd_T140 l0_1 x32_2).f1) (((rd_T140 l0_1 x32_2).f1).length : Int) x41_3 = some (r1, r2)) ∧ Aside0 (kq ≤ k2) ∧ Aside0 (w'.heap[gb1340]? = some (.cells #[(.slice A0_0 l0_0.length c0_0), (.slice (some ad1344) l0_1.length c0_1)] 85 (0, 0))) ∧ Aside0 (w'.heap[gb1345]? = some (.cells #[(.slice A1344_0 ((rd_T140 l0_1 x32_2).f0).length c1344_0), (.slice A1344_1 ((rd_T140 l0_1 x32_2).f1).length c1344_1), .bool false] 140 (0, 0))) ∧ Aside0 (Below w.heap.size w w'))
           case atStart => exact ⟨(x4_2), (0), (by first | rfl | (simp; done) | (simp [*]; done)), (by first | rfl | (simp; done) | (simp [*]; done)), H', ⟨Nat.le_refl _⟩, ⟨by (with_reducible repeat (first | refine xq ?_ _ | refine xr ?_ | refine xo ?_ _)); refine blk_far ?_ NB1340_1345.out _; (with_reducible repeat (first | refine xq ?_ _ | refine xr ?_ | refine xo ?_ _)); refine blk_far ?_ NB1340_1345.out _; (with_reducible repeat (first | refine xq ?_ _ | refine xr ?_ | refine xo ?_ _)); refine blk_far ?_ NB1340_1345.out _; (with_reducible repeat (first | refine xq ?_ _ | refine xr ?_ | refine xo ?_ _)); exact BK1340.out⟩, ⟨by (with_reducible repeat (first | refine xq ?_ _ | refine xr ?_ | refine xo ?_ _)); refine blk_put (cs := #[.slice A1344_0 ((rd_T140 l0_1 x32_2).f0).length c1344_0, .slice A1344_1 ((rd_T140 l0_1 x32_2).f1).length c1344_1, .bool false]) ?_ 2 _ rfl; (with_reducible repeat (first | refine xq ?_ _ | refine xr ?_ | refine xo ?_ _)); refine blk_put (cs := #[.slice A1344_0 ((rd_T140 l0_1 x32_2).f0).length c1344_0, .slice none 0 0, .bool false]) ?_ 1 _ rfl; (with_reducible repeat (first | refine xq ?_ _ | refine xr ?_ | refine xo ?_ _)); refine blk_put (cs := #[.slice none 0 0, .slice none 0 0, .bool false]) ?_ 0 _ rfl; (with_reducible repeat (first | refine xq ?_ _ | refine xr ?_ | refine xo ?_ _)); exact BK1345.out⟩, ⟨by repeat (first | (with_reducible first | exact HB.out | apply xa | apply xn | apply xd | refine xt ?_ GE1340.out | refine xt ?_ GE1345.out) | exact HB.out)⟩⟩
           case round =>
            clear H'
            try clear c1
            try clear p1
            try clear q1
            try clear hx1
            try clear c2
            try clear p2
            try clear q2
            try clear c3
            try clear c5
            try clear p6
            try clear c8
            try clear c8b0
            try clear c9
            try clear c9b0
            try clear c10
            try clear c10b0
            try clear q11
            try clear c12
            try clear c13
            try clear p13
            try clear q13
            try clear hx13
            try clear c14
            try clear c17
            try clear c20
            try clear c20b0
            try clear c21
            try clear c21b0
            try clear c22
            try clear c22b0
            try clear q23
            try clear c24
            try clear c26
            try clear c29
            try clear hcz15_0
            try clear hcz15_1
            try clear hcz15_2
            try clear hcz18_0
            try clear hcz18_1
            try clear hcz18_2
            try clear hcz19_0
            try clear hcz19_1
            try clear hcz27_0
            try clear hcz27_1
            try clear hcz27_2
            try clear hcz30_0
            try clear hcz30_1
            try clear hcz30_2
            try clear hcz5_0
            try clear hcz5_1
            try clear hcz7_0
            try clear hcz7_1
            try clear hfz15_0
            try clear hfz15_1
            try clear hfz15_2
            try clear hfz18_0
            try clear hfz18_1
            try clear hfz18_2
            try clear hfz19_0
            try clear hfz19_1
            try clear hfz27_0
            try clear hfz27_1
            try clear hfz27_2
            try clear hfz30_0
            try clear hfz30_1
            try clear hfz30_2
            try clear hfz5_0
            try clear hfz5_1
            try clear hfz7_0
            try clear hfz7_1
            try clear hx1342_0
            try clear hx1342_1
            try clear hx1342_2
            try clear hx1344_0
            try clear hx1344_1
            try clear hx1344_2
            try clear p1
            try clear p13
            try clear p1342
            try clear p1344
            try clear p2
            try clear p6
            try clear q1
            try clear q11
            try clear q13
            try clear q1342
            try clear q1344
            obtain ⟨x4_3, x41_3, rfl, rfl, HA, HK3, BK1340, BK1345, HB⟩ := hrel
            cases gk with
            | zero => exact absurd HA.out (by simp [spec_PictureOf.l2])
            | succ k3 =>
             have H := HA.out
             clear HA
             simp only [spec_PictureOf.l2] at H
             by_cases c31 : x41_3 < (((rd_T140 l0_1 x32_2).f1).length : Int)
             ·rw [if_pos c31] at H
              have c31b0 : decide (x41_3 < (((rd_T140 l0_1 x32_2).f1).length : Int)) = true := decide_eq_true c31
              clear c31
              by_cases c32 : 0 ≤ x41_3
              ·rw [if_pos c32] at H
               have c32b0 : decide (0 ≤ x41_3) = true := decide_eq_true c32
               clear c32
               by_cases c33 : x41_3 < (((rd_T140 l0_1 x32_2).f1).length : Int)
               ·rw [if_pos c33] at H
                have c33b0 : decide (x41_3 < (((rd_T140 l0_1 x32_2).f1).length : Int)) = true := decide_eq_true c33
                clear c33
                have H' := xm H
                clear H
                have p1346 : 0 ≤ (x41_3 : Int) := of_decide_eq_true (by first | (with_reducible assumption) | assumption)
                have q1346 : x41_3 < (((rd_T140 l0_1 x32_2).f1).length : Int) := of_decide_eq_true (by first | (with_reducible assumption) | assumption)
                obtain ⟨ad1346, e1346, hx1346_0⟩ := Kd.at_int HR1344_1.out x41_3 p1346 q1346
                cases e1346
                replace hx1346_0 := (HB.out.cell (World.block_lt_of_cell? w _ hx1346_0)).trans hx1346_0
                replace p1346 := eq_true p1346
                replace q1346 := eq_true q1346
                go_wp2
                go_roundg k3
                case measure => have := HK1.out; have := HK2.out; have := HK3.out; omega
                case rel => (try rw [← Nbq23.out]); exact ⟨(wrap64 (x4_3 + (rd ((rd_T140 l0_1 x32_2).f1) x41_3))), (wrap64 (x41_3 + 1)), (by first | rfl | (simp; done) | (simp [*]; done)), (by first | rfl | (simp; done) | (simp [*]; done)), H', ⟨by have := HK1.out; have := HK2.out; have := HK3.out; omega⟩, ⟨by (with_reducible repeat (first | refine xq ?_ _ | refine xr ?_ | refine xo ?_ _)); exact BK1340.out⟩, ⟨by (with_reducible repeat (first | refine xq ?_ _ | refine xr ?_ | refine xo ?_ _)); exact BK1345.out⟩, ⟨by repeat (first | (with_reducible first | exact HB.out | apply xa | apply xn | apply xd | refine xt ?_ GE1340.out | refine xt ?_ GE1345.out) | exact HB.out)⟩⟩
               ·rw [if_neg c33] at H
                exact absurd H (by simp)
              ·rw [if_neg c32] at H
               exact absurd H (by simp)
             ·rw [if_neg c31] at H
              have c31b0 : decide (x41_3 < (((rd_T140 l0_1 x32_2).f1).length : Int)) = false := decide_eq_false c31
              clear c31
              have H' := xm H
              clear H
              go_wp2
              go_roundg k3
              case measure => have := HK1.out; have := HK2.out; have := HK3.out; omega
              case rel => (try rw [← Nbq23.out]); exact ⟨(x4_3), (wrap64 (x32_2 + 1)), (by first | rfl | (simp; done) | (simp [*]; done)), (by first | rfl | (simp; done) | (simp [*]; done)), H', ⟨by have := HK1.out; have := HK2.out; have := HK3.out; omega⟩, ⟨by (with_reducible repeat (first | refine xq ?_ _ | refine xr ?_ | refine xo ?_ _)); exact BK1340.out⟩, ⟨by repeat (first | (with_reducible first | exact HB.out | apply xa | apply xn | apply xd | refine xt ?_ GE1340.out | refine xt ?_ GE1345.out) | exact HB.out)⟩⟩
         ·rw [if_neg c22] at H
          exact absurd H (by simp)
        ·rw [if_neg c21] at H
         exact absurd H (by simp)
       ·rw [if_neg c20] at H
        have c20b0 : decide (x32_2 < (l0_1.length : Int)) = false := decide_eq_false c20
        clear c20
        simp only [Option.some.injEq, Prod.mk.injEq] at H
        obtain ⟨rfl, rfl⟩ := H
        go_wp2
        go_ret2
        exact ⟨by first | rfl | (simp [errW_none, errW_some] <;> rfl) | (simp [*, errW_none, errW_some] <;> rfl), by repeat (first | (with_reducible first | exact HB.out | apply xa | apply xn | apply xd | refine xt ?_ GE1340.out) | exact HB.out)⟩
 ·replace c3 := Bool.eq_false_iff.mpr c3
  subst c3
  have H1 : (some (0, false)) = some (r1, r2) := by first | (with_reducible rfl) | (rw [if_neg (show ¬ (false = true) by decide)] at H; exact H)
  clear H
  have H := H1
  clear H1
  simp only [Option.some.injEq, Prod.mk.injEq] at H
  obtain ⟨rfl, rfl⟩ := H
  go_enter Try.func80, Try.ntmps80
  go_wp2_with (first | ((with_reducible refine gate_dst (N := 1) rfl ?_); refine box_event ?hg (N := 1) ?hd (cs := #[.slice A0_0 l0_0.length c0_0, .slice A0_1 l0_1.length c0_1]) (t := 85) ?hr ?_; (case hd => rfl); (case hg => rfl); (case hr => first | (go_simp; done) | (go_simp; rfl)); intro gb1340 hg w34 hbox hb; have n0_ := xm (below_step (by repeat (first | (with_reducible first | exact HB.out | apply xa | apply xn | apply xd) | exact HB.out)) hb); have n1_ := xm (hbox); have n2_ := xm ((by rw [hg]; exact (xz (by repeat (first | (with_reducible first | exact HB.out | apply xa | apply xn | apply xd) | exact HB.out))) : w.heap.size ≤ gb1340)); have n3_ := xm ((by rw [hg]; exact (xz (by repeat (first | (with_reducible first | exact HB.out | apply xa | apply xn | apply xd) | exact HB.out))) : w.heap.size ≤ gb1340)); clear HB; have HB := n0_; have BK1340 := n1_; have GW1340 := n2_; have GE1340 := n3_; clear n0_ n1_ n2_ n3_; clear hb hbox hg; have hcz35_0 : w34.cell? ⟨gb1340, 0, none⟩ = some (.slice A0_0 l0_0.length c0_0) := (xc BK1340.out 0).trans rfl; have hcz35_1 : w34.cell? ⟨gb1340, 1, none⟩ = some (.slice A0_1 l0_1.length c0_1) := (xc BK1340.out 1).trans rfl; have hfz35_0 := xf BK1340.out 0; have hfz35_1 := xf BK1340.out 1) | ((with_reducible refine gate_callee (f := 56) rfl ?_); refine goesL_ (some 12) rfl rfl Try.func56 (by kernel_rfl) rfl #[.agg #[.slice A0_0 l0_0.length c0_0, .slice A0_1 l0_1.length c0_1]] rfl (by (try simp only [List.map_toArray, List.map_cons, List.map_nil]); first | done | rfl | (simp only [List.length_drop, List.length_take]; rfl)) ?_; (with_reducible refine (spec_GoodSnap.calls k _ _ l0_0 _ _ l0_1 false _ ?side1 ?side2 ?side3 ?side4 A2.out).mono ?_); (case side1 => repeat (first | exact (Kd.C_below HR0_0.out HB.out) | (with_reducible refine Kd.C_alloc ?_ _) | (with_reducible refine Kd.C_drewN ?_ _) | (with_reducible refine Kd.C_drew ?_))); (case side2 => exact HC0_0.out); (case side3 => repeat (first | exact (Kd.C_below HR0_1.out HB.out) | (with_reducible refine Kd.C_alloc ?_ _) | (with_reducible refine Kd.C_drewN ?_ _) | (with_reducible refine Kd.C_drew ?_))); (case side4 => exact HC0_1.out); rintro e w36 ⟨rfl, hb⟩; refine ⟨_, rfl, ?_⟩; have n0_ := xm (blk_below (g := gb1340) (o := .cells #[.slice A0_0 l0_0.length c0_0, .slice A0_1 l0_1.length c0_1] 85 (0, 0)) (by (with_reducible repeat (first | refine xq ?_ _ | refine xr ?_ | refine xo ?_ _)); exact BK1340.out) hb); have n1_ := xm (below_step (by repeat (first | (with_reducible first | exact HB.out | apply xa | apply xn | apply xd | refine xt ?_ GE1340.out) | exact HB.out)) hb); clear BK1340; clear HB; have BK1340 := n0_; have HB := n1_; clear n0_ n1_; (try clear hb); (try clear hb2); (try clear hk); (try clear hi)))
  go_ret2
  exact ⟨by first | rfl | (simp [errW_none, errW_some] <;> rfl) | (simp [*, errW_none, errW_some] <;> rfl), by repeat (first | (with_reducible first | exact HB.out | apply xa | apply xn | apply xd | refine xt ?_ GE1340.out) | exact HB.out)⟩

end Go.Proofs.Ytpbpglbldgpckaa.G
