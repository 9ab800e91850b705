/- Written by a program of this claim's own, out of the translation: functions of the program as plain functions, and that the calls answer as these. No conditions. -/
import Derived.Test.YtcbikaoackbbjaaG0
import Derived.Test.YtcbikaoackbbjaaG2
import Derived.Test.YtcbikaoackbbjaaG11
import Derived.Test.YtcbikaoackbbjaaG15
namespace Go.Proofs.Ytcbikaoackbbjaa.G
open Go.RowKit Go.Proofs.Ytcbikaoackbbjaa.X Go.Proofs.YtcbikaoackbbjaaW.PrintWords Go.Proofs.YtcbikaoackbbjaaW.PrintLast Go.Proofs.YtcbikaoackbbjaaW.PrintMore
attribute [local go_sem] max2_int min2_int max_two min_two max_three min_three max_four min_four   -- for this text's walks alone
set_option linter.unusedVariables false
set_option linter.unusedSimpArgs false

/-! ### spec_GoodTable: function 41 -/
mutual
def spec_GoodTable.l0 : Nat → List (S126) → Int → Int → Int → List (S126) → Option (Bool)
 | 0, _, _, _, _, _ => none
 | k + 1, x6, x7, x8, x278000, x278001 => if x8 < x7 then (if 0 ≤ x8 then (if x8 < (x6.length : Int) then ((spec_GoodRow.f k ((rd_T126 x6 x8).f0.f0)).bind fun t280 => (if t280 = true then (if (((rd_T126 x6 x8).f0.f0).length : Int) = x278000 then ((spec_l2Weight.f ((rd_T126 x6 x8).f1)).bind fun t281 => (if t281 = true then (if ((rd_T126 x6 x8).f1) = 0 then (spec_GoodTable.j1 k x6 x7 x8 true x278000 x278001) else (if x8 > 0 then (if 0 ≤ (wrap64 (x8 - 1)) then (if (wrap64 (x8 - 1)) < (x278001.length : Int) then ((spec_l1Compare.f k ((rd_T126 x278001 (wrap64 (x8 - 1))).f0.f0) ((rd_T126 x6 x8).f0.f0)).bind fun t283 => (spec_GoodTable.j1 k x6 x7 x8 (decide (t283 ≥ 0)) x278000 x278001)) else (none)) else (none)) else (spec_GoodTable.j1 k x6 x7 x8 false x278000 x278001))) else (spec_GoodTable.j1 k x6 x7 x8 true x278000 x278001))) else (spec_GoodTable.j1 k x6 x7 x8 true x278000 x278001)) else (spec_GoodTable.j1 k x6 x7 x8 true x278000 x278001))) else (none)) else (none)) else ((spec_l1In.f x278000 0 6).bind fun t284 => (if t284 = true then (some (decide ((x278001.length : Int) ≤ 60))) else (some false)))
def spec_GoodTable.j1 : Nat → List (S126) → Int → Int → Bool → Int → List (S126) → Option (Bool)
 | 0, _, _, _, _, _, _ => none
 | k + 1, x6, x7, x8, x53, x278000, x278001 => if x53 = true then (some false) else (spec_GoodTable.l0 k x6 x7 (wrap64 (x8 + 1)) x278000 x278001)
end
def spec_GoodTable.f (k : Nat) (a0_0 : Int) (l0_1 : List (S126)) : Option (Bool) := spec_GoodTable.l0 k l0_1 (l0_1.length : Int) 0 a0_0 l0_1
theorem spec_GoodTable.mono_l : ∀ k, (∀ y0 y1 y2 y3 y4, LeO (spec_GoodTable.l0 k y0 y1 y2 y3 y4) (spec_GoodTable.l0 (k + 1) y0 y1 y2 y3 y4)) ∧ (∀ y0 y1 y2 y3 y4 y5, LeO (spec_GoodTable.j1 k y0 y1 y2 y3 y4 y5) (spec_GoodTable.j1 (k + 1) y0 y1 y2 y3 y4 y5))
 | 0 => ⟨fun _ _ _ _ _ r h => by simp [spec_GoodTable.l0] at h, fun _ _ _ _ _ _ r h => by simp [spec_GoodTable.j1] at h⟩
 | k + 1 => by
  obtain ⟨ih0, ih1⟩ := spec_GoodTable.mono_l k
  refine ⟨?_, ?_⟩
  ·intro y0 y1 y2 y3 y4
   unfold spec_GoodTable.l0
   repeat' first
   | (with_reducible exact ih0 _ _ _ _ _)
   | (with_reducible exact ih1 _ _ _ _ _ _)
   | (with_reducible exact spec_GoodRow.mono _ _)
   | (with_reducible exact spec_l1Compare.mono _ _ _)
   | (with_reducible exact LeO.refl _)
   | (with_reducible exact LeO.none _)
   | (with_reducible refine LeO.ite ?_ ?_)
   | (with_reducible refine LeO.bind ?_ (fun _ => ?_))
   | exact ih0 _ _ _ _ _
   | exact ih1 _ _ _ _ _ _
   | exact spec_GoodRow.mono _ _
   | exact spec_l1Compare.mono _ _ _
   | exact LeO.none _
   | refine LeO.ite ?_ ?_
   | refine LeO.bind ?_ (fun _ => ?_)
  ·intro y0 y1 y2 y3 y4 y5
   unfold spec_GoodTable.j1
   repeat' first
   | (with_reducible exact ih0 _ _ _ _ _)
   | (with_reducible exact ih1 _ _ _ _ _ _)
   | (with_reducible exact spec_GoodRow.mono _ _)
   | (with_reducible exact spec_l1Compare.mono _ _ _)
   | (with_reducible exact LeO.refl _)
   | (with_reducible exact LeO.none _)
   | (with_reducible refine LeO.ite ?_ ?_)
   | (with_reducible refine LeO.bind ?_ (fun _ => ?_))
   | exact ih0 _ _ _ _ _
   | exact ih1 _ _ _ _ _ _
   | exact spec_GoodRow.mono _ _
   | exact spec_l1Compare.mono _ _ _
   | exact LeO.none _
   | refine LeO.ite ?_ ?_
   | refine LeO.bind ?_ (fun _ => ?_)
theorem spec_GoodTable.mono : ∀ a0 a1 k, LeO (spec_GoodTable.f k a0 a1) (spec_GoodTable.f (k + 1) a0 a1) := by
 intro a0 a1 k
 obtain ⟨ih0, ih1⟩ := spec_GoodTable.mono_l k
 unfold spec_GoodTable.f
 repeat' first
   | (with_reducible exact ih0 _ _ _ _ _)
   | (with_reducible exact ih1 _ _ _ _ _ _)
   | (with_reducible exact spec_GoodRow.mono _ _)
   | (with_reducible exact spec_l1Compare.mono _ _ _)
   | (with_reducible exact LeO.refl _)
   | (with_reducible exact LeO.none _)
   | (with_reducible refine LeO.ite ?_ ?_)
   | (with_reducible refine LeO.bind ?_ (fun _ => ?_))
   | exact ih0 _ _ _ _ _
   | exact ih1 _ _ _ _ _ _
   | exact spec_GoodRow.mono _ _
   | exact spec_l1Compare.mono _ _ _
   | exact LeO.none _
   | refine LeO.ite ?_ ?_
   | refine LeO.bind ?_ (fun _ => ?_)
def spec_GoodTable.T4 : Bool × List (List Nat × List Nat) := (true, [([], []), ([0], [0]), ([1], [1]), ([2], [2]), ([3, 2], [3]), ([4], [4]), ([5, 4], [4, 5]), ([6, 4], [4, 6]), ([7, 4], [4, 7]), ([4], [4]), ([9, 4], [4, 9]), ([8, 10, 4], [4, 8, 10]), ([4, 11], [4, 11]), ([12, 4], [12]), ([13], [13]), ([14, 13], [13, 14]), ([15, 13, 13], [13, 15]), ([16, 13], [13, 16]), ([13, 17], [13, 17]), ([18, 16], [18]), ([19], [19]), ([20, 19], [19, 20]), ([21, 19], [19, 21]), ([19, 22], [19, 22]), ([23, 19], [23]), ([24], [24]), ([25, 24], [24, 25]), ([26, 24, 24], [24, 26]), ([27], [27]), ([28, 27], [27, 28]), ([27], [27]), ([30, 27], [27, 30]), ([29, 31, 27], [27, 29, 31]), ([32, 27], [27, 32]), ([33, 27], [27, 33]), ([27], [27]), ([35, 27], [27, 35]), ([34, 36, 27, 27], [27, 34, 36]), ([37, 27], [27, 37]), ([27, 38, 24], [24, 27, 38]), ([24, 39], [24, 39])])
def spec_GoodTable.B4 : List Nat := [0, 1, 3, 7, 15, 31, 63, 127, 255, 31, 543, 2047, 4095, 8191, 16383, 32767, 65535, 131071, 262143, 524287, 1048575, 2097151, 4194303, 8388607, 16777215, 33554431, 67108863, 134217727, 268435455, 536870911, 268435455, 1342177279, 4294967295, 8589934591, 17179869183, 268435455, 34628173823, 137438953471, 274877906943, 549755813887, 1099511627775]
theorem spec_GoodTable.tab4 : rtab .any (opsOf Try.f41 4) = spec_GoodTable.T4 := by kernel_rfl
theorem spec_GoodTable.bits4 : waitsOk spec_GoodTable.T4.2 spec_GoodTable.B4 = true := by kernel_rfl
set_option maxHeartbeats 8000000 in
set_option maxRecDepth 100000 in
theorem spec_GoodTable.calls (k : Nat) (a0_0 : Int) (A0_1 : Option Addr) (c0_1 : Nat) (l0_1 : List (S126)) (r : Bool) (w : World) (hr0_1 : Kd.C k126 w A0_1 l0_1.length l0_1) (hc0_1 : l0_1.length ≤ c0_1) (h : spec_GoodTable.f k a0_0 l0_1 = some r) :
  Calls Try.prog 41 #[.agg #[.int .i64 a0_0, .slice A0_1 l0_1.length c0_1]] w fun e w' => e = .returned (.bool r) ∧ Below w.heap.size w w' := by
 have hu41 := Try.underlying41
 have hu126 := Try.underlying126
 have hu26 := Try.underlying26
 have HR0_1 := xm hr0_1
 have HC0_1 := xm hc0_1
 clear hr0_1 hc0_1
 have HB := xm (Below.refl w.heap.size w)
 have H : (spec_GoodTable.l0 k l0_1 (l0_1.length : Int) 0 a0_0 l0_1) = some r := h
 clear h
 have H' := xm H
 clear H
 go_enter Try.func41, Try.ntmps41
 go_wp2_with (first | ((with_reducible refine gate_dst (N := 1) rfl ?_); (try (refine gate_guard (by rfl) ?_; dsimp only)); refine box_event ?hg (N := 1) ?hd (cs := #[.int .i64 a0_0, .slice A0_1 l0_1.length c0_1]) (t := 41) ?hr ?_; (case hd => rfl); (case hg => rfl); (case hr => first | (go_simp; done) | (go_simp; rfl)); intro gb277 hg w2 hbox hb; have n0_ := xm (below_step (by repeat (first | (with_reducible first | exact HB.out | apply xa | apply xn | apply xd) | exact HB.out)) hb); have n1_ := xm (hbox); have n2_ := xm ((by rw [hg]; exact (xz (by repeat (first | (with_reducible first | exact HB.out | apply xa | apply xn | apply xd) | exact HB.out))) : w.heap.size ≤ gb277)); have n3_ := xm ((by rw [hg]; exact (xz (by repeat (first | (with_reducible first | exact HB.out | apply xa | apply xn | apply xd) | exact HB.out))) : w.heap.size ≤ gb277)); clear HB; have HB := n0_; have BK277 := n1_; have GW277 := n2_; have GE277 := n3_; clear n0_ n1_ n2_ n3_; clear hb hbox hg; have hcz3_0 : w2.cell? ⟨gb277, 0, none⟩ = some (.int .i64 a0_0) := (xc BK277.out 0).trans rfl; have hcz3_1 : w2.cell? ⟨gb277, 1, none⟩ = some (.slice A0_1 l0_1.length c0_1) := (xc BK277.out 1).trans rfl; have hfz3_0 := xf BK277.out 0; have hfz3_1 := xf BK277.out 1))
 go_loopg [8] k (fun kq v8 w' => ∃ (x8_1 : Int), v8 = .int .i64 x8_1 ∧ Aside0 (spec_GoodTable.l0 kq l0_1 (l0_1.length : Int) x8_1 a0_0 l0_1 = some r) ∧ Aside0 (kq ≤ k) ∧ Aside0 (w'.heap[gb277]? = some (.cells #[.int .i64 a0_0, (.slice A0_1 l0_1.length c0_1)] 41 (0, 0))) ∧ Aside0 (Below w.heap.size w w'))
 case atStart => exact ⟨(0), (by first | rfl | (simp; done) | (simp [*]; done)), H', ⟨Nat.le_refl _⟩, ⟨by (with_reducible repeat (first | refine xq ?_ _ | refine xr ?_ | refine xo ?_ _)); exact BK277.out⟩, ⟨by repeat (first | (with_reducible first | exact HB.out | apply xa | apply xn | apply xd | refine xt ?_ GE277.out) | exact HB.out)⟩⟩
 case round =>
  clear H'
  try clear p2
  try clear hcz3_0
  try clear hcz3_1
  try clear hfz3_0
  try clear hfz3_1
  obtain ⟨x8_1, rfl, HA, HK1, BK277, HB⟩ := hrel
  cases gk with
  | zero => exact absurd HA.out (by simp [spec_GoodTable.l0])
  | succ k1 =>
   have H := HA.out
   clear HA
   simp only [spec_GoodTable.l0] at H
   by_cases c4 : x8_1 < (l0_1.length : Int)
   ·rw [if_pos c4] at H
    have c4b0 : decide (x8_1 < (l0_1.length : Int)) = true := decide_eq_true c4
    clear c4
    by_cases c5 : 0 ≤ x8_1
    ·rw [if_pos c5] at H
     have c5b0 : decide (0 ≤ x8_1) = true := decide_eq_true c5
     clear c5
     by_cases c6 : x8_1 < (l0_1.length : Int)
     ·rw [if_pos c6] at H
      have c6b0 : decide (x8_1 < (l0_1.length : Int)) = true := decide_eq_true c6
      clear c6
      have HC7 := xm H
      clear H
      have p278 : 0 ≤ (x8_1 : Int) := of_decide_eq_true (by first | (with_reducible assumption) | assumption)
      have q278 : x8_1 < (l0_1.length : Int) := of_decide_eq_true (by first | (with_reducible assumption) | assumption)
      obtain ⟨ad278, A278_0, c278_0, e278, hx278_0, hx278_1, hl278_0, hi278_0⟩ := at_T126 HR0_1.out x8_1 p278 q278
      cases e278
      replace hx278_0 := (HB.out.cell (World.block_lt_of_cell? w _ hx278_0)).trans hx278_0
      replace hx278_1 := (HB.out.cell (World.block_lt_of_cell? w _ hx278_1)).trans hx278_1
      have HR278_0 := xm hi278_0
      have HC278_0 := xm hl278_0
      clear hi278_0 hl278_0
      replace p278 := eq_true p278
      replace q278 := eq_true q278
      go_upto_region 4 with (first | ((with_reducible refine gate_dst (N := 4) rfl ?_); (try (refine gate_guard (by rfl) ?_; dsimp only)); refine box_event ?hg (N := 4) ?hd (cs := #[.slice none 0 0, .int .i64 0]) (t := 126) ?hr ?_; (case hd => rfl); (case hg => rfl); (case hr => first | (go_simp; done) | (go_simp; rfl)); intro gb279 hg w8 hbox hb; have n0_ := xm (blk_below (g := gb277) (o := .cells #[.int .i64 a0_0, .slice (some ad278) l0_1.length c0_1] 41 (0, 0)) (by (with_reducible repeat (first | refine xq ?_ _ | refine xr ?_ | refine xo ?_ _)); exact BK277.out) hb); have n1_ := xm (below_step (by repeat (first | (with_reducible first | exact HB.out | apply xa | apply xn | apply xd | refine xt ?_ GE277.out) | exact HB.out)) hb); have n2_ := xm (hbox); have n3_ := xm ((by rw [hg]; exact (xz (by repeat (first | (with_reducible first | exact HB.out | apply xa | apply xn | apply xd | refine xt ?_ GE277.out) | exact HB.out))) : w.heap.size ≤ gb279)); have n4_ := xm ((by rw [hg]; exact (xz (by repeat (first | (with_reducible first | exact HB.out | apply xa | apply xn | apply xd | refine xt ?_ GE277.out) | exact HB.out))) : w.heap.size ≤ gb279)); have n5_ := xm ((by rw [hg]; exact Nat.ne_of_lt (blk_lt (g := gb277) (o := .cells #[.int .i64 a0_0, .slice (some ad278) l0_1.length c0_1] 41 (0, 0)) (by (with_reducible repeat (first | refine xq ?_ _ | refine xr ?_ | refine xo ?_ _)); exact BK277.out)) : gb277 ≠ gb279)); have n6_ := xm ((by rw [hg]; exact Nat.ne_of_gt (blk_lt (g := gb277) (o := .cells #[.int .i64 a0_0, .slice (some ad278) l0_1.length c0_1] 41 (0, 0)) (by (with_reducible repeat (first | refine xq ?_ _ | refine xr ?_ | refine xo ?_ _)); exact BK277.out)) : gb279 ≠ gb277)); clear BK277; clear HB; have BK277 := n0_; have HB := n1_; have BK279 := n2_; have GW279 := n3_; have GE279 := n4_; have NB277_279 := n5_; have NB279_277 := n6_; clear n0_ n1_ n2_ n3_ n4_ n5_ n6_; clear hb hbox hg; have hnb9 := NB279_277.out; have hnc9 := NB277_279.out; have hcz10_0 : w8.cell? ⟨gb279, 0, none⟩ = some (.slice none 0 0) := (xc BK279.out 0).trans rfl; have hcz10_1 : w8.cell? ⟨gb279, 1, none⟩ = some (.int .i64 0) := (xc BK279.out 1).trans rfl; have hfz10_0 := xf BK279.out 0; have hfz10_1 := xf BK279.out 1))
      (try simp only [Act.put, xi, xj, xk])
      go_cut [53] (fun v53 wc => ∃ (kq : Nat) (x53_6 : Bool), v53 = .bool x53_6 ∧ Aside0 (spec_GoodTable.j1 kq l0_1 (l0_1.length : Int) x8_1 x53_6 a0_0 l0_1 = some r) ∧ Aside0 (kq ≤ k1) ∧ Aside0 (wc.heap[gb277]? = some (.cells #[.int .i64 a0_0, (.slice (some ad278) l0_1.length c0_1)] 41 (0, 0))) ∧ Aside0 (wc.heap[gb279]? = some (.cells #[(.slice A278_0 ((rd_T126 l0_1 x8_1).f0.f0).length c278_0), .int .i64 ((rd_T126 l0_1 x8_1).f1)] 126 (0, 0))) ∧ Aside0 (Below w.heap.size w wc))
      case first =>
       have H := HC7.out
       clear HC7
       replace H := Option.bind_eq_some_iff.mp H
       obtain ⟨t280, A110, H⟩ := H
       replace H : (if t280 = true then (if (((rd_T126 l0_1 x8_1).f0.f0).length : Int) = a0_0 then ((spec_l2Weight.f ((rd_T126 l0_1 x8_1).f1)).bind fun t281 => (if t281 = true then (if ((rd_T126 l0_1 x8_1).f1) = 0 then (spec_GoodTable.j1 k1 l0_1 (l0_1.length : Int) x8_1 true a0_0 l0_1) else (if x8_1 > 0 then (if 0 ≤ (wrap64 (x8_1 - 1)) then (if (wrap64 (x8_1 - 1)) < (l0_1.length : Int) then ((spec_l1Compare.f k1 ((rd_T126 l0_1 (wrap64 (x8_1 - 1))).f0.f0) ((rd_T126 l0_1 x8_1).f0.f0)).bind fun t283 => (spec_GoodTable.j1 k1 l0_1 (l0_1.length : Int) x8_1 (decide (t283 ≥ 0)) a0_0 l0_1)) else (none)) else (none)) else (spec_GoodTable.j1 k1 l0_1 (l0_1.length : Int) x8_1 false a0_0 l0_1))) else (spec_GoodTable.j1 k1 l0_1 (l0_1.length : Int) x8_1 true a0_0 l0_1))) else (spec_GoodTable.j1 k1 l0_1 (l0_1.length : Int) x8_1 true a0_0 l0_1)) else (spec_GoodTable.j1 k1 l0_1 (l0_1.length : Int) x8_1 true a0_0 l0_1)) = some r := H
       have A11 := xm A110
       clear A110
       by_cases c12 : t280 = true
       ·subst c12
        have H1 : (if (((rd_T126 l0_1 x8_1).f0.f0).length : Int) = a0_0 then ((spec_l2Weight.f ((rd_T126 l0_1 x8_1).f1)).bind fun t281 => (if t281 = true then (if ((rd_T126 l0_1 x8_1).f1) = 0 then (spec_GoodTable.j1 k1 l0_1 (l0_1.length : Int) x8_1 true a0_0 l0_1) else (if x8_1 > 0 then (if 0 ≤ (wrap64 (x8_1 - 1)) then (if (wrap64 (x8_1 - 1)) < (l0_1.length : Int) then ((spec_l1Compare.f k1 ((rd_T126 l0_1 (wrap64 (x8_1 - 1))).f0.f0) ((rd_T126 l0_1 x8_1).f0.f0)).bind fun t283 => (spec_GoodTable.j1 k1 l0_1 (l0_1.length : Int) x8_1 (decide (t283 ≥ 0)) a0_0 l0_1)) else (none)) else (none)) else (spec_GoodTable.j1 k1 l0_1 (l0_1.length : Int) x8_1 false a0_0 l0_1))) else (spec_GoodTable.j1 k1 l0_1 (l0_1.length : Int) x8_1 true a0_0 l0_1))) else (spec_GoodTable.j1 k1 l0_1 (l0_1.length : Int) x8_1 true a0_0 l0_1)) = some r := by first | (with_reducible rfl) | (rw [if_pos rfl] at H; exact H)
        clear H
        have H := H1
        clear H1
        by_cases c13 : (((rd_T126 l0_1 x8_1).f0.f0).length : Int) = a0_0
        ·rw [if_pos c13] at H
         have c13b0 : ((((rd_T126 l0_1 x8_1).f0.f0).length : Int) == a0_0) = true := beq_iff_eq.mpr c13
         have c13b1 : ((((rd_T126 l0_1 x8_1).f0.f0).length : Int) != a0_0) = false := bne_eq_false_iff_eq.mpr c13
         clear c13
         (first | rw [c13b0] | (simp only [i64_w, i32_w]; rw [c13b0]) | skip)
         replace H := Option.bind_eq_some_iff.mp H
         obtain ⟨t281, A140, H⟩ := H
         replace H : (if t281 = true then (if ((rd_T126 l0_1 x8_1).f1) = 0 then (spec_GoodTable.j1 k1 l0_1 (l0_1.length : Int) x8_1 true a0_0 l0_1) else (if x8_1 > 0 then (if 0 ≤ (wrap64 (x8_1 - 1)) then (if (wrap64 (x8_1 - 1)) < (l0_1.length : Int) then ((spec_l1Compare.f k1 ((rd_T126 l0_1 (wrap64 (x8_1 - 1))).f0.f0) ((rd_T126 l0_1 x8_1).f0.f0)).bind fun t283 => (spec_GoodTable.j1 k1 l0_1 (l0_1.length : Int) x8_1 (decide (t283 ≥ 0)) a0_0 l0_1)) else (none)) else (none)) else (spec_GoodTable.j1 k1 l0_1 (l0_1.length : Int) x8_1 false a0_0 l0_1))) else (spec_GoodTable.j1 k1 l0_1 (l0_1.length : Int) x8_1 true a0_0 l0_1)) = some r := H
         have A14 := xm A140
         clear A140
         by_cases c15 : t281 = true
         ·subst c15
          have H1 : (if ((rd_T126 l0_1 x8_1).f1) = 0 then (spec_GoodTable.j1 k1 l0_1 (l0_1.length : Int) x8_1 true a0_0 l0_1) else (if x8_1 > 0 then (if 0 ≤ (wrap64 (x8_1 - 1)) then (if (wrap64 (x8_1 - 1)) < (l0_1.length : Int) then ((spec_l1Compare.f k1 ((rd_T126 l0_1 (wrap64 (x8_1 - 1))).f0.f0) ((rd_T126 l0_1 x8_1).f0.f0)).bind fun t283 => (spec_GoodTable.j1 k1 l0_1 (l0_1.length : Int) x8_1 (decide (t283 ≥ 0)) a0_0 l0_1)) else (none)) else (none)) else (spec_GoodTable.j1 k1 l0_1 (l0_1.length : Int) x8_1 false a0_0 l0_1))) = some r := by first | (with_reducible rfl) | (rw [if_pos rfl] at H; exact H)
          clear H
          have H := H1
          clear H1
          by_cases c16 : ((rd_T126 l0_1 x8_1).f1) = 0
          ·rw [if_pos c16] at H
           have c16b0 : (((rd_T126 l0_1 x8_1).f1) == 0) = true := beq_iff_eq.mpr c16
           have c16b1 : (((rd_T126 l0_1 x8_1).f1) != 0) = false := bne_eq_false_iff_eq.mpr c16
           clear c16
           have H' := xm H
           clear H
           try go_wp2
           have n0_ : Aside0 (((w8.setCell ⟨gb279, 0, none⟩ (.slice A278_0 ((rd_T126 l0_1 x8_1).f0.f0).length c278_0)).setCell ⟨gb279, 1, none⟩ (.int .i64 ((rd_T126 l0_1 x8_1).f1))).heap[gb277]? = some (.cells #[.int .i64 a0_0, .slice (some ad278) l0_1.length c0_1] 41 (0, 0))) := ⟨by (with_reducible repeat (first | refine xq ?_ _ | refine xr ?_ | refine xo ?_ _)); refine blk_far ?_ NB277_279.out _; (with_reducible repeat (first | refine xq ?_ _ | refine xr ?_ | refine xo ?_ _)); refine blk_far ?_ NB277_279.out _; (with_reducible repeat (first | refine xq ?_ _ | refine xr ?_ | refine xo ?_ _)); exact BK277.out⟩
           have n1_ : Aside0 (((w8.setCell ⟨gb279, 0, none⟩ (.slice A278_0 ((rd_T126 l0_1 x8_1).f0.f0).length c278_0)).setCell ⟨gb279, 1, none⟩ (.int .i64 ((rd_T126 l0_1 x8_1).f1))).heap[gb279]? = some (.cells #[.slice A278_0 ((rd_T126 l0_1 x8_1).f0.f0).length c278_0, .int .i64 ((rd_T126 l0_1 x8_1).f1)] 126 (0, 0))) := ⟨by (with_reducible repeat (first | refine xq ?_ _ | refine xr ?_ | refine xo ?_ _)); refine blk_put (cs := #[.slice A278_0 ((rd_T126 l0_1 x8_1).f0.f0).length c278_0, .int .i64 0]) ?_ 1 _ rfl; (with_reducible repeat (first | refine xq ?_ _ | refine xr ?_ | refine xo ?_ _)); refine blk_put (cs := #[.slice none 0 0, .int .i64 0]) ?_ 0 _ rfl; (with_reducible repeat (first | refine xq ?_ _ | refine xr ?_ | refine xo ?_ _)); exact BK279.out⟩
           have n2_ : Aside0 (Below w.heap.size w ((w8.setCell ⟨gb279, 0, none⟩ (.slice A278_0 ((rd_T126 l0_1 x8_1).f0.f0).length c278_0)).setCell ⟨gb279, 1, none⟩ (.int .i64 ((rd_T126 l0_1 x8_1).f1)))) := ⟨by repeat (first | (with_reducible first | exact HB.out | apply xa | apply xn | apply xd | refine xt ?_ GE277.out | refine xt ?_ GE279.out) | exact HB.out)⟩
           (try clear BK277)
           (try clear BK279)
           (try clear HB)
           generalize ((w8.setCell ⟨gb279, 0, none⟩ (.slice A278_0 ((rd_T126 l0_1 x8_1).f0.f0).length c278_0)).setCell ⟨gb279, 1, none⟩ (.int .i64 ((rd_T126 l0_1 x8_1).f1))) = w17 at n0_ n1_ n2_ ⊢
           have BK277 := n0_
           have BK279 := n1_
           have HB := n2_
           clear n0_ n1_ n2_
           have n0_ := xm (xr BK277.out)
           have n1_ := xm (xr BK279.out)
           have n2_ := xm (xd HB.out)
           clear BK277
           clear BK279
           clear HB
           have BK277 := n0_
           have BK279 := n1_
           have HB := n2_
           clear n0_ n1_ n2_
           refine start_ (n := 41) (S := fun w' => w'.cell? ⟨gb279, 0, none⟩ = some (.slice A278_0 ((rd_T126 l0_1 x8_1).f0.f0).length c278_0) ∧ w'.cell? ⟨gb279, 1, none⟩ = some (.int .i64 ((rd_T126 l0_1 x8_1).f1)) ∧ w'.cell? ⟨gb277, 0, none⟩ = some (.int .i64 a0_0) ∧ w'.cell? ⟨gb277, 1, none⟩ = some (.slice (some ad278) l0_1.length c0_1)) (ds := []) #[Z,Z,Z,Z,Z,Z,Z,Z,Z,Z,Z,Z,Z,Z,Z,Z,Z,Z,Z,Z,Z,Z,Z,Z,Z,Z,Z,Z,Z,Z,Z,Z,Z,Z,Z,Z,Z,Z,Z,Z,Z] (by kernel_rfl) rfl rfl ⟨(xc BK279.out 0).trans rfl, (xc BK279.out 1).trans rfl, (xc BK277.out 0).trans rfl, (xc BK277.out 1).trans rfl⟩ (fun hHeld => ?_); refine with_tabW spec_GoodTable.tab4 spec_GoodTable.bits4 (fun HT_ HW_ => ?_)
           generalize w17.drew = w18 at BK277 BK279 HB hHeld ⊢
           refine px 0 41 1 (any_of HT_.out (by kernel_rfl)) ?_
           refine tx 1 41 3 rfl rfl (take_ofW HT_.out HW_.out (by kernel_rfl)) hHeld (by rintro w' ⟨s0, s1, s2, s3⟩; go_simp; with_reducible rfl) ?_
           refine one_ (i := 2) (N := some 15) #[Y,Y,Y,Z,Z,Z,Z,Z,Z,Z,Z,Z,Z,Z,Z,Z,Z,Z,Z,Z,Z,Z,Z,Z,Z,Z,Z,Z,Z,Z,Z,Z,Z,Z,Z,Z,Z,Z,Z,Z,Z] rfl rfl (one_of HT_.out (by kernel_rfl)) (by decide) (fun K hK => ?_)
           refine goes_ Try.func82 (by kernel_rfl) rfl #[.agg #[.slice A278_0 ((rd_T126 l0_1 x8_1).f0.f0).length c278_0]] (by rfl) rfl rfl (by (try simp only [List.map_toArray, List.map_cons, List.map_nil]); first | done | rfl | (simp only [List.length_drop, List.length_take]; rfl)) ?_
           with_reducible refine (spec_GoodRow.calls k1 _ _ ((rd_T126 l0_1 x8_1).f0.f0) true _ ?side1 ?side2 A11.out).mono ?_
           (case side1 => repeat (first | exact (Kd.C_below HR278_0.out HB.out) | (with_reducible refine Kd.C_alloc ?_ _) | (with_reducible refine Kd.C_drewN ?_ _) | (with_reducible refine Kd.C_drew ?_)))
           (case side2 => exact HC278_0.out)
           rintro e w19 ⟨rfl, hb⟩
           refine ⟨_, rfl, ?_⟩
           have n0_ := xm (blk_below (g := gb277) (o := .cells #[.int .i64 a0_0, .slice (some ad278) l0_1.length c0_1] 41 (0, 0)) (by (with_reducible repeat (first | refine xq ?_ _ | refine xr ?_ | refine xo ?_ _)); exact BK277.out) hb)
           have n1_ := xm (blk_below (g := gb279) (o := .cells #[.slice A278_0 ((rd_T126 l0_1 x8_1).f0.f0).length c278_0, .int .i64 ((rd_T126 l0_1 x8_1).f1)] 126 (0, 0)) (by (with_reducible repeat (first | refine xq ?_ _ | refine xr ?_ | refine xo ?_ _)); exact BK279.out) hb)
           have n2_ := xm (below_step (by repeat (first | (with_reducible first | exact HB.out | apply xa | apply xn | apply xd | refine xt ?_ GE277.out | refine xt ?_ GE279.out) | exact HB.out)) hb)
           clear BK277
           clear BK279
           clear HB
           have BK277 := n0_
           have BK279 := n1_
           have HB := n2_
           clear n0_ n1_ n2_
           (try clear hb)
           (try clear hb2)
           (try clear hk)
           (try clear hi)
           refine hK.out _ _ ⟨(xc BK279.out 0).trans rfl, (xc BK279.out 1).trans rfl, (xc BK277.out 0).trans rfl, (xc BK277.out 1).trans rfl⟩ (fun hHeld => ?_)
           clear hK K
           refine norm_ (a' := ?_) ?_ ?_
           rotate_left
           ·show Act.put _ (some 15) _ = _
            simp only [Act.put, xi, xj, xk, i64_w, i32_w]
            rfl
           refine px 3 41 15 (any_of HT_.out (by kernel_rfl)) ?_
           refine px 4 41 31 (any_of HT_.out (by kernel_rfl)) ?_
           refine px 5 41 63 (any_of HT_.out (by kernel_rfl)) ?_
           refine px 6 41 127 (any_of HT_.out (by kernel_rfl)) ?_
           refine px 9 41 639 (any_of HT_.out (by kernel_rfl)) ?_
           refine tx 7 41 767 rfl rfl (take_ofW HT_.out HW_.out (by kernel_rfl)) hHeld (by rintro w' ⟨s0, s1, s2, s3⟩; go_simp; with_reducible rfl) ?_
           refine px 8 41 1023 (any_of HT_.out (by kernel_rfl)) ?_
           refine tx 10 41 2047 rfl rfl (take_ofW HT_.out HW_.out (by kernel_rfl)) hHeld (by rintro w' ⟨s0, s1, s2, s3⟩; go_simp; with_reducible rfl) ?_
           refine px 11 41 4095 (any_of HT_.out (by kernel_rfl)) ?_
           refine px 12 41 8191 (any_of HT_.out (by kernel_rfl)) ?_
           refine px 13 41 16383 (any_of HT_.out (by kernel_rfl)) ?_
           refine px 14 41 32767 (any_of HT_.out (by kernel_rfl)) ?_
           refine tx 15 41 65535 rfl rfl (take_ofW HT_.out HW_.out (by kernel_rfl)) hHeld (by rintro w' ⟨s0, s1, s2, s3⟩; go_simp; with_reducible rfl) ?_
           refine one_ (i := 16) (N := some 29) #[Y,Y,Y,Y,Y,Y,Y,Y,Y,Y,Y,Y,Y,Y,Y,Y,Y,Z,Z,Z,Z,Z,Z,Z,Z,Z,Z,Z,Z,Z,Z,Z,Z,Z,Z,Z,Z,Z,Z,Z,Z] rfl rfl (one_of HT_.out (by kernel_rfl)) (by decide) (fun K hK => ?_)
           refine goes_ Try.func103 (by kernel_rfl) rfl #[.int .i64 ((rd_T126 l0_1 x8_1).f1)] (by rfl) rfl rfl (by (try simp only [List.map_toArray, List.map_cons, List.map_nil]); first | done | rfl | (simp only [List.length_drop, List.length_take]; rfl)) ?_
           with_reducible refine (spec_l2Weight.calls ((rd_T126 l0_1 x8_1).f1) true _ A14.out).mono ?_
           rintro e w' ⟨rfl, ⟨nd, rfl⟩⟩
           refine ⟨_, rfl, ?_⟩
           refine hK.out _ _ ⟨(xc BK279.out 0).trans rfl, (xc BK279.out 1).trans rfl, (xc BK277.out 0).trans rfl, (xc BK277.out 1).trans rfl⟩ (fun hHeld => ?_)
           clear hK K
           refine norm_ (a' := ?_) ?_ ?_
           rotate_left
           ·show Act.put _ (some 29) _ = _
            simp only [Act.put, xi, xj, xk, i64_w, i32_w]
            rfl
           refine px 17 41 262143 (any_of HT_.out (by kernel_rfl)) ?_
           refine px 18 41 524287 (any_of HT_.out (by kernel_rfl)) ?_
           refine px 19 41 1048575 (any_of HT_.out (by kernel_rfl)) ?_
           refine px 20 41 2097151 (any_of HT_.out (by kernel_rfl)) ?_
           refine tx 21 41 4194303 rfl rfl (take_ofW HT_.out HW_.out (by kernel_rfl)) hHeld (by rintro w' ⟨s0, s1, s2, s3⟩; go_simp; with_reducible rfl) ?_
           refine px 22 41 8388607 (any_of HT_.out (by kernel_rfl)) ?_
           refine px 23 41 16777215 (any_of HT_.out (by kernel_rfl)) ?_
           refine px 24 41 33554431 (any_of HT_.out (by kernel_rfl)) ?_
           refine ox 25 41 67108863 (any_of HT_.out (by kernel_rfl)) ?_
           refine ox 26 41 134217727 (any_of HT_.out (by kernel_rfl)) ?_
           refine ox 27 41 268435455 (any_of HT_.out (by kernel_rfl)) ?_
           refine ox 28 41 536870911 (any_of HT_.out (by kernel_rfl)) ?_
           refine ox 29 41 1073741823 (any_of HT_.out (by kernel_rfl)) ?_
           refine ox 30 41 2147483647 (any_of HT_.out (by kernel_rfl)) ?_
           refine ox 31 41 4294967295 (any_of HT_.out (by kernel_rfl)) ?_
           refine ox 32 41 8589934591 (any_of HT_.out (by kernel_rfl)) ?_
           refine ox 33 41 17179869183 (any_of HT_.out (by kernel_rfl)) ?_
           refine ox 34 41 34359738367 (any_of HT_.out (by kernel_rfl)) ?_
           refine ox 35 41 68719476735 (any_of HT_.out (by kernel_rfl)) ?_
           refine ox 36 41 137438953471 (any_of HT_.out (by kernel_rfl)) ?_
           refine ox 37 41 274877906943 (any_of HT_.out (by kernel_rfl)) ?_
           refine ox 38 41 549755813887 (any_of HT_.out (by kernel_rfl)) ?_
           refine ox 39 41 1099511627775 (any_of HT_.out (by kernel_rfl)) ?_
           refine px 40 41 2199023255551 (any_of HT_.out (by kernel_rfl)) ?_
           refine done_ (done_of HT_.out (by kernel_rfl)) ?_
           try go_wp2
           go_meet
           case rel => exact ⟨_, (true), (by first | rfl | (simp; done) | (simp [*]; done)), H', ⟨by have := HK1.out; first | omega | exact Nat.le_refl _⟩, ⟨by (with_reducible repeat (first | refine xq ?_ _ | refine xr ?_ | refine xo ?_ _)); exact BK277.out⟩, ⟨by (with_reducible repeat (first | refine xq ?_ _ | refine xr ?_ | refine xo ?_ _)); exact BK279.out⟩, ⟨by repeat (first | (with_reducible first | exact HB.out | apply xa | apply xn | apply xd | refine xt ?_ GE277.out | refine xt ?_ GE279.out) | exact HB.out)⟩⟩
          ·rw [if_neg c16] at H
           have c16b0 : (((rd_T126 l0_1 x8_1).f1) == 0) = false := beq_eq_false_iff_ne.mpr c16
           have c16b1 : (((rd_T126 l0_1 x8_1).f1) != 0) = true := bne_iff_ne.mpr c16
           by_cases c20 : x8_1 > 0
           ·rw [if_pos c20] at H
            have c20b0 : decide (0 < x8_1) = true := decide_eq_true c20
            clear c20
            obtain ⟨ji21, hji21⟩ : ∃ j_ : Int, (wrap64 (x8_1 - 1)) = j_ := ⟨_, rfl⟩
            replace H : (if 0 ≤ (ji21) then (if (ji21) < (l0_1.length : Int) then ((spec_l1Compare.f k1 ((rd_T126 l0_1 (ji21)).f0.f0) ((rd_T126 l0_1 x8_1).f0.f0)).bind fun t283 => (spec_GoodTable.j1 k1 l0_1 (l0_1.length : Int) x8_1 (decide (t283 ≥ 0)) a0_0 l0_1)) else (none)) else (none)) = some r := by first | (rw [hji21] at H; exact H) | (simp only [hji21] at H ⊢; exact H)
            (try rw [hji21] at A11)
            (try rw [hji21] at A14)
            have hji21w : (IntKind.i64.wrap (x8_1 - 1)) = ji21 := (i64_w _).trans hji21
            by_cases c22 : 0 ≤ (ji21)
            ·rw [if_pos c22] at H
             have c22b0 : decide (0 ≤ (ji21)) = true := decide_eq_true c22
             clear c22
             by_cases c23 : (ji21) < (l0_1.length : Int)
             ·rw [if_pos c23] at H
              have c23b0 : decide ((ji21) < (l0_1.length : Int)) = true := decide_eq_true c23
              clear c23
              replace H := Option.bind_eq_some_iff.mp H
              obtain ⟨t283, A240, H⟩ := H
              replace H : (spec_GoodTable.j1 k1 l0_1 (l0_1.length : Int) x8_1 (decide (t283 ≥ 0)) a0_0 l0_1) = some r := H
              have A24 := xm A240
              clear A240
              have H' := xm H
              clear H
              try go_wp2
              have n0_ : Aside0 (((w8.setCell ⟨gb279, 0, none⟩ (.slice A278_0 ((rd_T126 l0_1 x8_1).f0.f0).length c278_0)).setCell ⟨gb279, 1, none⟩ (.int .i64 ((rd_T126 l0_1 x8_1).f1))).heap[gb277]? = some (.cells #[.int .i64 a0_0, .slice (some ad278) l0_1.length c0_1] 41 (0, 0))) := ⟨by (with_reducible repeat (first | refine xq ?_ _ | refine xr ?_ | refine xo ?_ _)); refine blk_far ?_ NB277_279.out _; (with_reducible repeat (first | refine xq ?_ _ | refine xr ?_ | refine xo ?_ _)); refine blk_far ?_ NB277_279.out _; (with_reducible repeat (first | refine xq ?_ _ | refine xr ?_ | refine xo ?_ _)); exact BK277.out⟩
              have n1_ : Aside0 (((w8.setCell ⟨gb279, 0, none⟩ (.slice A278_0 ((rd_T126 l0_1 x8_1).f0.f0).length c278_0)).setCell ⟨gb279, 1, none⟩ (.int .i64 ((rd_T126 l0_1 x8_1).f1))).heap[gb279]? = some (.cells #[.slice A278_0 ((rd_T126 l0_1 x8_1).f0.f0).length c278_0, .int .i64 ((rd_T126 l0_1 x8_1).f1)] 126 (0, 0))) := ⟨by (with_reducible repeat (first | refine xq ?_ _ | refine xr ?_ | refine xo ?_ _)); refine blk_put (cs := #[.slice A278_0 ((rd_T126 l0_1 x8_1).f0.f0).length c278_0, .int .i64 0]) ?_ 1 _ rfl; (with_reducible repeat (first | refine xq ?_ _ | refine xr ?_ | refine xo ?_ _)); refine blk_put (cs := #[.slice none 0 0, .int .i64 0]) ?_ 0 _ rfl; (with_reducible repeat (first | refine xq ?_ _ | refine xr ?_ | refine xo ?_ _)); exact BK279.out⟩
              have n2_ : Aside0 (Below w.heap.size w ((w8.setCell ⟨gb279, 0, none⟩ (.slice A278_0 ((rd_T126 l0_1 x8_1).f0.f0).length c278_0)).setCell ⟨gb279, 1, none⟩ (.int .i64 ((rd_T126 l0_1 x8_1).f1)))) := ⟨by repeat (first | (with_reducible first | exact HB.out | apply xa | apply xn | apply xd | refine xt ?_ GE277.out | refine xt ?_ GE279.out) | exact HB.out)⟩
              (try clear BK277)
              (try clear BK279)
              (try clear HB)
              generalize ((w8.setCell ⟨gb279, 0, none⟩ (.slice A278_0 ((rd_T126 l0_1 x8_1).f0.f0).length c278_0)).setCell ⟨gb279, 1, none⟩ (.int .i64 ((rd_T126 l0_1 x8_1).f1))) = w25 at n0_ n1_ n2_ ⊢
              have BK277 := n0_
              have BK279 := n1_
              have HB := n2_
              clear n0_ n1_ n2_
              have n0_ := xm (xr BK277.out)
              have n1_ := xm (xr BK279.out)
              have n2_ := xm (xd HB.out)
              clear BK277
              clear BK279
              clear HB
              have BK277 := n0_
              have BK279 := n1_
              have HB := n2_
              clear n0_ n1_ n2_
              have p282 : 0 ≤ ((ji21) : Int) := of_decide_eq_true (by first | (with_reducible assumption) | assumption)
              have q282 : (ji21) < (l0_1.length : Int) := of_decide_eq_true (by first | (with_reducible assumption) | assumption)
              obtain ⟨ad282, A282_0, c282_0, e282, hx282_0, hx282_1, hl282_0, hi282_0⟩ := at_T126 HR0_1.out (ji21) p282 q282
              have hw282_1 := hx282_1
              have hw282_0 := hx282_0
              obtain rfl : ad278 = ad282 := (by injection e282)
              replace hx282_0 := (HB.out.cell (World.block_lt_of_cell? w _ hx282_0)).trans hx282_0
              replace hx282_1 := (HB.out.cell (World.block_lt_of_cell? w _ hx282_1)).trans hx282_1
              have HR282_0 := xm hi282_0
              have HC282_0 := xm hl282_0
              clear hi282_0 hl282_0
              replace p282 := eq_true p282
              replace q282 := eq_true q282
              refine start_ (n := 41) (S := fun w' => w'.cell? ⟨gb279, 0, none⟩ = some (.slice A278_0 ((rd_T126 l0_1 x8_1).f0.f0).length c278_0) ∧ w'.cell? ⟨gb279, 1, none⟩ = some (.int .i64 ((rd_T126 l0_1 x8_1).f1)) ∧ w'.cell? ⟨gb277, 0, none⟩ = some (.int .i64 a0_0) ∧ w'.cell? ⟨gb277, 1, none⟩ = some (.slice (some ad278) l0_1.length c0_1) ∧ w'.cell? (ad278.add (((ji21)).toNat * 2)) = some (.slice A282_0 ((rd_T126 l0_1 (ji21)).f0.f0).length c282_0) ∧ w'.cell? ⟨(ad278.add (((ji21)).toNat * 2)).block, (ad278.add (((ji21)).toNat * 2)).off + 1, none⟩ = some (.int .i64 ((rd_T126 l0_1 (ji21)).f1))) (ds := []) #[Z,Z,Z,Z,Z,Z,Z,Z,Z,Z,Z,Z,Z,Z,Z,Z,Z,Z,Z,Z,Z,Z,Z,Z,Z,Z,Z,Z,Z,Z,Z,Z,Z,Z,Z,Z,Z,Z,Z,Z,Z] (by kernel_rfl) rfl rfl ⟨(xc BK279.out 0).trans rfl, (xc BK279.out 1).trans rfl, (xc BK277.out 0).trans rfl, (xc BK277.out 1).trans rfl, ((HB.out.cell (World.block_lt_of_cell? w _ hw282_0)).trans hw282_0), ((HB.out.cell (World.block_lt_of_cell? w _ hw282_1)).trans hw282_1)⟩ (fun hHeld => ?_); refine with_tabW spec_GoodTable.tab4 spec_GoodTable.bits4 (fun HT_ HW_ => ?_)
              generalize w25.drew = w26 at BK277 BK279 HB HR282_0 hx282_0 hx282_1 hHeld ⊢
              refine px 0 41 1 (any_of HT_.out (by kernel_rfl)) ?_
              refine tx 1 41 3 rfl rfl (take_ofW HT_.out HW_.out (by kernel_rfl)) hHeld (by rintro w' ⟨s0, s1, s2, s3, s4, s5⟩; go_simp; with_reducible rfl) ?_
              refine one_ (i := 2) (N := some 15) #[Y,Y,Y,Z,Z,Z,Z,Z,Z,Z,Z,Z,Z,Z,Z,Z,Z,Z,Z,Z,Z,Z,Z,Z,Z,Z,Z,Z,Z,Z,Z,Z,Z,Z,Z,Z,Z,Z,Z,Z,Z] rfl rfl (one_of HT_.out (by kernel_rfl)) (by decide) (fun K hK => ?_)
              refine goes_ Try.func82 (by kernel_rfl) rfl #[.agg #[.slice A278_0 ((rd_T126 l0_1 x8_1).f0.f0).length c278_0]] (by rfl) rfl rfl (by (try simp only [List.map_toArray, List.map_cons, List.map_nil]); first | done | rfl | (simp only [List.length_drop, List.length_take]; rfl)) ?_
              with_reducible refine (spec_GoodRow.calls k1 _ _ ((rd_T126 l0_1 x8_1).f0.f0) true _ ?side1 ?side2 A11.out).mono ?_
              (case side1 => repeat (first | exact (Kd.C_below HR278_0.out HB.out) | (with_reducible refine Kd.C_alloc ?_ _) | (with_reducible refine Kd.C_drewN ?_ _) | (with_reducible refine Kd.C_drew ?_)))
              (case side2 => exact HC278_0.out)
              rintro e w27 ⟨rfl, hb⟩
              refine ⟨_, rfl, ?_⟩
              have n0_ := xm (blk_below (g := gb277) (o := .cells #[.int .i64 a0_0, .slice (some ad278) l0_1.length c0_1] 41 (0, 0)) (by (with_reducible repeat (first | refine xq ?_ _ | refine xr ?_ | refine xo ?_ _)); exact BK277.out) hb)
              have n1_ := xm (blk_below (g := gb279) (o := .cells #[.slice A278_0 ((rd_T126 l0_1 x8_1).f0.f0).length c278_0, .int .i64 ((rd_T126 l0_1 x8_1).f1)] 126 (0, 0)) (by (with_reducible repeat (first | refine xq ?_ _ | refine xr ?_ | refine xo ?_ _)); exact BK279.out) hb)
              have n2_ := xm (below_step (by repeat (first | (with_reducible first | exact HB.out | apply xa | apply xn | apply xd | refine xt ?_ GE277.out | refine xt ?_ GE279.out) | exact HB.out)) hb)
              clear BK277
              clear BK279
              clear HB
              have BK277 := n0_
              have BK279 := n1_
              have HB := n2_
              clear n0_ n1_ n2_
              (try clear hb)
              (try clear hb2)
              (try clear hk)
              (try clear hi)
              refine hK.out _ _ ⟨(xc BK279.out 0).trans rfl, (xc BK279.out 1).trans rfl, (xc BK277.out 0).trans rfl, (xc BK277.out 1).trans rfl, ((HB.out.cell (World.block_lt_of_cell? w _ hw282_0)).trans hw282_0), ((HB.out.cell (World.block_lt_of_cell? w _ hw282_1)).trans hw282_1)⟩ (fun hHeld => ?_)
              clear hK K
              refine norm_ (a' := ?_) ?_ ?_
              rotate_left
              ·show Act.put _ (some 15) _ = _
               simp only [Act.put, xi, xj, xk, i64_w, i32_w]
               rfl
              refine px 3 41 15 (any_of HT_.out (by kernel_rfl)) ?_
              refine px 4 41 31 (any_of HT_.out (by kernel_rfl)) ?_
              refine px 5 41 63 (any_of HT_.out (by kernel_rfl)) ?_
              refine px 6 41 127 (any_of HT_.out (by kernel_rfl)) ?_
              refine px 9 41 639 (any_of HT_.out (by kernel_rfl)) ?_
              refine tx 7 41 767 rfl rfl (take_ofW HT_.out HW_.out (by kernel_rfl)) hHeld (by rintro w' ⟨s0, s1, s2, s3, s4, s5⟩; go_simp; with_reducible rfl) ?_
              refine px 8 41 1023 (any_of HT_.out (by kernel_rfl)) ?_
              refine tx 10 41 2047 rfl rfl (take_ofW HT_.out HW_.out (by kernel_rfl)) hHeld (by rintro w' ⟨s0, s1, s2, s3, s4, s5⟩; go_simp; with_reducible rfl) ?_
              refine px 11 41 4095 (any_of HT_.out (by kernel_rfl)) ?_
              refine px 12 41 8191 (any_of HT_.out (by kernel_rfl)) ?_
              refine px 13 41 16383 (any_of HT_.out (by kernel_rfl)) ?_
              refine px 14 41 32767 (any_of HT_.out (by kernel_rfl)) ?_
              refine tx 15 41 65535 rfl rfl (take_ofW HT_.out HW_.out (by kernel_rfl)) hHeld (by rintro w' ⟨s0, s1, s2, s3, s4, s5⟩; go_simp; with_reducible rfl) ?_
              refine one_ (i := 16) (N := some 29) #[Y,Y,Y,Y,Y,Y,Y,Y,Y,Y,Y,Y,Y,Y,Y,Y,Y,Z,Z,Z,Z,Z,Z,Z,Z,Z,Z,Z,Z,Z,Z,Z,Z,Z,Z,Z,Z,Z,Z,Z,Z] rfl rfl (one_of HT_.out (by kernel_rfl)) (by decide) (fun K hK => ?_)
              refine goes_ Try.func103 (by kernel_rfl) rfl #[.int .i64 ((rd_T126 l0_1 x8_1).f1)] (by rfl) rfl rfl (by (try simp only [List.map_toArray, List.map_cons, List.map_nil]); first | done | rfl | (simp only [List.length_drop, List.length_take]; rfl)) ?_
              with_reducible refine (spec_l2Weight.calls ((rd_T126 l0_1 x8_1).f1) true _ A14.out).mono ?_
              rintro e w' ⟨rfl, ⟨nd, rfl⟩⟩
              refine ⟨_, rfl, ?_⟩
              refine hK.out _ _ ⟨(xc BK279.out 0).trans rfl, (xc BK279.out 1).trans rfl, (xc BK277.out 0).trans rfl, (xc BK277.out 1).trans rfl, ((HB.out.cell (World.block_lt_of_cell? w _ hw282_0)).trans hw282_0), ((HB.out.cell (World.block_lt_of_cell? w _ hw282_1)).trans hw282_1)⟩ (fun hHeld => ?_)
              clear hK K
              refine norm_ (a' := ?_) ?_ ?_
              rotate_left
              ·show Act.put _ (some 29) _ = _
               simp only [Act.put, xi, xj, xk, i64_w, i32_w]
               rfl
              refine px 17 41 262143 (any_of HT_.out (by kernel_rfl)) ?_
              refine px 18 41 524287 (any_of HT_.out (by kernel_rfl)) ?_
              refine px 19 41 1048575 (any_of HT_.out (by kernel_rfl)) ?_
              refine px 20 41 2097151 (any_of HT_.out (by kernel_rfl)) ?_
              refine tx 21 41 4194303 rfl rfl (take_ofW HT_.out HW_.out (by kernel_rfl)) hHeld (by rintro w' ⟨s0, s1, s2, s3, s4, s5⟩; go_simp; with_reducible rfl) ?_
              refine px 22 41 8388607 (any_of HT_.out (by kernel_rfl)) ?_
              refine px 23 41 16777215 (any_of HT_.out (by kernel_rfl)) ?_
              refine px 24 41 33554431 (any_of HT_.out (by kernel_rfl)) ?_
              refine px 25 41 67108863 (any_of HT_.out (by kernel_rfl)) ?_
              refine px 26 41 134217727 (any_of HT_.out (by kernel_rfl)) ?_
              refine px 27 41 268435455 (any_of HT_.out (by kernel_rfl)) ?_
              refine px 28 41 536870911 (any_of HT_.out (by kernel_rfl)) ?_
              refine px 30 41 1610612735 (any_of HT_.out (by kernel_rfl)) ?_
              refine px 31 41 3758096383 (any_of HT_.out (by kernel_rfl)) ?_
              refine px 35 41 38117834751 (any_of HT_.out (by kernel_rfl)) ?_
              refine tx 29 41 38654705663 rfl rfl (take_ofW HT_.out HW_.out (by kernel_rfl)) hHeld (by rintro w' ⟨s0, s1, s2, s3, s4, s5⟩; go_simp; with_reducible rfl) ?_
              refine px 32 41 42949672959 (any_of HT_.out (by kernel_rfl)) ?_
              refine px 33 41 51539607551 (any_of HT_.out (by kernel_rfl)) ?_
              refine tx 34 41 68719476735 rfl rfl (take_ofW HT_.out HW_.out (by kernel_rfl)) hHeld (by rintro w' ⟨s0, s1, s2, s3, s4, s5⟩; go_simp; with_reducible rfl) ?_
              refine tx 36 41 137438953471 rfl rfl (take_ofW HT_.out HW_.out (by kernel_rfl)) hHeld (by rintro w' ⟨s0, s1, s2, s3, s4, s5⟩; go_simp; with_reducible rfl) ?_
              refine one_ (i := 37) (N := some 50) #[Y,Y,Y,Y,Y,Y,Y,Y,Y,Y,Y,Y,Y,Y,Y,Y,Y,Y,Y,Y,Y,Y,Y,Y,Y,Y,Y,Y,Y,Y,Y,Y,Y,Y,Y,Y,Y,Y,Z,Z,Z] rfl rfl (one_of HT_.out (by kernel_rfl)) (by decide) (fun K hK => ?_)
              refine goes_ Try.func88 (by kernel_rfl) rfl #[.agg #[.slice A282_0 ((rd_T126 l0_1 (ji21)).f0.f0).length c282_0], .agg #[.slice A278_0 ((rd_T126 l0_1 x8_1).f0.f0).length c278_0]] (by rfl) rfl rfl (by (try simp only [List.map_toArray, List.map_cons, List.map_nil]); first | done | (simp only [hji21]; rfl) | rfl | (simp only [List.length_drop, List.length_take]; rfl)) ?_
              with_reducible refine (spec_l1Compare.calls k1 _ _ ((rd_T126 l0_1 (ji21)).f0.f0) _ _ ((rd_T126 l0_1 x8_1).f0.f0) t283 _ ?side1 ?side2 ?side3 ?side4 A24.out).mono ?_
              (case side1 => repeat (first | exact (Kd.C_below HR282_0.out (by repeat (first | (with_reducible first | exact HB.out | apply xa | apply xn | apply xd | refine xt ?_ GE277.out | refine xt ?_ GE279.out) | exact HB.out))) | (with_reducible refine Kd.C_alloc ?_ _) | (with_reducible refine Kd.C_drewN ?_ _) | (with_reducible refine Kd.C_drew ?_)))
              (case side2 => exact HC282_0.out)
              (case side3 => repeat (first | exact (Kd.C_below HR278_0.out (by repeat (first | (with_reducible first | exact HB.out | apply xa | apply xn | apply xd | refine xt ?_ GE277.out | refine xt ?_ GE279.out) | exact HB.out))) | (with_reducible refine Kd.C_alloc ?_ _) | (with_reducible refine Kd.C_drewN ?_ _) | (with_reducible refine Kd.C_drew ?_)))
              (case side4 => exact HC278_0.out)
              rintro e w28 ⟨rfl, hb⟩
              refine ⟨_, rfl, ?_⟩
              have n0_ := xm (blk_below (g := gb277) (o := .cells #[.int .i64 a0_0, .slice (some ad278) l0_1.length c0_1] 41 (0, 0)) (by (with_reducible repeat (first | refine xq ?_ _ | refine xr ?_ | refine xo ?_ _)); exact BK277.out) hb)
              have n1_ := xm (blk_below (g := gb279) (o := .cells #[.slice A278_0 ((rd_T126 l0_1 x8_1).f0.f0).length c278_0, .int .i64 ((rd_T126 l0_1 x8_1).f1)] 126 (0, 0)) (by (with_reducible repeat (first | refine xq ?_ _ | refine xr ?_ | refine xo ?_ _)); exact BK279.out) hb)
              have n2_ := xm (below_step (by repeat (first | (with_reducible first | exact HB.out | apply xa | apply xn | apply xd | refine xt ?_ GE277.out | refine xt ?_ GE279.out) | exact HB.out)) hb)
              clear BK277
              clear BK279
              clear HB
              have BK277 := n0_
              have BK279 := n1_
              have HB := n2_
              clear n0_ n1_ n2_
              (try clear hb)
              (try clear hb2)
              (try clear hk)
              (try clear hi)
              refine hK.out _ _ ⟨(xc BK279.out 0).trans rfl, (xc BK279.out 1).trans rfl, (xc BK277.out 0).trans rfl, (xc BK277.out 1).trans rfl, ((HB.out.cell (World.block_lt_of_cell? w _ hw282_0)).trans hw282_0), ((HB.out.cell (World.block_lt_of_cell? w _ hw282_1)).trans hw282_1)⟩ (fun hHeld => ?_)
              clear hK K
              refine norm_ (a' := ?_) ?_ ?_
              rotate_left
              ·show Act.put _ (some 50) _ = _
               simp only [Act.put, xi, xj, xk, i64_w, i32_w]
               rfl
              refine px 38 41 549755813887 (any_of HT_.out (by kernel_rfl)) ?_
              refine px 39 41 1099511627775 (any_of HT_.out (by kernel_rfl)) ?_
              refine px 40 41 2199023255551 (any_of HT_.out (by kernel_rfl)) ?_
              refine done_ (done_of HT_.out (by kernel_rfl)) ?_
              try go_wp2
              go_meet
              case rel => exact ⟨_, (decide (t283 ≥ 0)), (by first | rfl | (simp; done) | (simp [*]; done)), H', ⟨by have := HK1.out; first | omega | exact Nat.le_refl _⟩, ⟨by (with_reducible repeat (first | refine xq ?_ _ | refine xr ?_ | refine xo ?_ _)); exact BK277.out⟩, ⟨by (with_reducible repeat (first | refine xq ?_ _ | refine xr ?_ | refine xo ?_ _)); exact BK279.out⟩, ⟨by repeat (first | (with_reducible first | exact HB.out | apply xa | apply xn | apply xd | refine xt ?_ GE277.out | refine xt ?_ GE279.out) | exact HB.out)⟩⟩
             ·rw [if_neg c23] at H
              exact absurd H (by simp)
            ·rw [if_neg c22] at H
             exact absurd H (by simp)
           ·rw [if_neg c20] at H
            have c20b0 : decide (0 < x8_1) = false := decide_eq_false c20
            clear c20
            have H' := xm H
            clear H
            try go_wp2
            have n0_ : Aside0 (((w8.setCell ⟨gb279, 0, none⟩ (.slice A278_0 ((rd_T126 l0_1 x8_1).f0.f0).length c278_0)).setCell ⟨gb279, 1, none⟩ (.int .i64 ((rd_T126 l0_1 x8_1).f1))).heap[gb277]? = some (.cells #[.int .i64 a0_0, .slice (some ad278) l0_1.length c0_1] 41 (0, 0))) := ⟨by (with_reducible repeat (first | refine xq ?_ _ | refine xr ?_ | refine xo ?_ _)); refine blk_far ?_ NB277_279.out _; (with_reducible repeat (first | refine xq ?_ _ | refine xr ?_ | refine xo ?_ _)); refine blk_far ?_ NB277_279.out _; (with_reducible repeat (first | refine xq ?_ _ | refine xr ?_ | refine xo ?_ _)); exact BK277.out⟩
            have n1_ : Aside0 (((w8.setCell ⟨gb279, 0, none⟩ (.slice A278_0 ((rd_T126 l0_1 x8_1).f0.f0).length c278_0)).setCell ⟨gb279, 1, none⟩ (.int .i64 ((rd_T126 l0_1 x8_1).f1))).heap[gb279]? = some (.cells #[.slice A278_0 ((rd_T126 l0_1 x8_1).f0.f0).length c278_0, .int .i64 ((rd_T126 l0_1 x8_1).f1)] 126 (0, 0))) := ⟨by (with_reducible repeat (first | refine xq ?_ _ | refine xr ?_ | refine xo ?_ _)); refine blk_put (cs := #[.slice A278_0 ((rd_T126 l0_1 x8_1).f0.f0).length c278_0, .int .i64 0]) ?_ 1 _ rfl; (with_reducible repeat (first | refine xq ?_ _ | refine xr ?_ | refine xo ?_ _)); refine blk_put (cs := #[.slice none 0 0, .int .i64 0]) ?_ 0 _ rfl; (with_reducible repeat (first | refine xq ?_ _ | refine xr ?_ | refine xo ?_ _)); exact BK279.out⟩
            have n2_ : Aside0 (Below w.heap.size w ((w8.setCell ⟨gb279, 0, none⟩ (.slice A278_0 ((rd_T126 l0_1 x8_1).f0.f0).length c278_0)).setCell ⟨gb279, 1, none⟩ (.int .i64 ((rd_T126 l0_1 x8_1).f1)))) := ⟨by repeat (first | (with_reducible first | exact HB.out | apply xa | apply xn | apply xd | refine xt ?_ GE277.out | refine xt ?_ GE279.out) | exact HB.out)⟩
            (try clear BK277)
            (try clear BK279)
            (try clear HB)
            generalize ((w8.setCell ⟨gb279, 0, none⟩ (.slice A278_0 ((rd_T126 l0_1 x8_1).f0.f0).length c278_0)).setCell ⟨gb279, 1, none⟩ (.int .i64 ((rd_T126 l0_1 x8_1).f1))) = w29 at n0_ n1_ n2_ ⊢
            have BK277 := n0_
            have BK279 := n1_
            have HB := n2_
            clear n0_ n1_ n2_
            have n0_ := xm (xr BK277.out)
            have n1_ := xm (xr BK279.out)
            have n2_ := xm (xd HB.out)
            clear BK277
            clear BK279
            clear HB
            have BK277 := n0_
            have BK279 := n1_
            have HB := n2_
            clear n0_ n1_ n2_
            refine start_ (n := 41) (S := fun w' => w'.cell? ⟨gb279, 0, none⟩ = some (.slice A278_0 ((rd_T126 l0_1 x8_1).f0.f0).length c278_0) ∧ w'.cell? ⟨gb279, 1, none⟩ = some (.int .i64 ((rd_T126 l0_1 x8_1).f1)) ∧ w'.cell? ⟨gb277, 0, none⟩ = some (.int .i64 a0_0) ∧ w'.cell? ⟨gb277, 1, none⟩ = some (.slice (some ad278) l0_1.length c0_1)) (ds := []) #[Z,Z,Z,Z,Z,Z,Z,Z,Z,Z,Z,Z,Z,Z,Z,Z,Z,Z,Z,Z,Z,Z,Z,Z,Z,Z,Z,Z,Z,Z,Z,Z,Z,Z,Z,Z,Z,Z,Z,Z,Z] (by kernel_rfl) rfl rfl ⟨(xc BK279.out 0).trans rfl, (xc BK279.out 1).trans rfl, (xc BK277.out 0).trans rfl, (xc BK277.out 1).trans rfl⟩ (fun hHeld => ?_); refine with_tabW spec_GoodTable.tab4 spec_GoodTable.bits4 (fun HT_ HW_ => ?_)
            generalize w29.drew = w30 at BK277 BK279 HB hHeld ⊢
            refine px 0 41 1 (any_of HT_.out (by kernel_rfl)) ?_
            refine tx 1 41 3 rfl rfl (take_ofW HT_.out HW_.out (by kernel_rfl)) hHeld (by rintro w' ⟨s0, s1, s2, s3⟩; go_simp; with_reducible rfl) ?_
            refine one_ (i := 2) (N := some 15) #[Y,Y,Y,Z,Z,Z,Z,Z,Z,Z,Z,Z,Z,Z,Z,Z,Z,Z,Z,Z,Z,Z,Z,Z,Z,Z,Z,Z,Z,Z,Z,Z,Z,Z,Z,Z,Z,Z,Z,Z,Z] rfl rfl (one_of HT_.out (by kernel_rfl)) (by decide) (fun K hK => ?_)
            refine goes_ Try.func82 (by kernel_rfl) rfl #[.agg #[.slice A278_0 ((rd_T126 l0_1 x8_1).f0.f0).length c278_0]] (by rfl) rfl rfl (by (try simp only [List.map_toArray, List.map_cons, List.map_nil]); first | done | rfl | (simp only [List.length_drop, List.length_take]; rfl)) ?_
            with_reducible refine (spec_GoodRow.calls k1 _ _ ((rd_T126 l0_1 x8_1).f0.f0) true _ ?side1 ?side2 A11.out).mono ?_
            (case side1 => repeat (first | exact (Kd.C_below HR278_0.out HB.out) | (with_reducible refine Kd.C_alloc ?_ _) | (with_reducible refine Kd.C_drewN ?_ _) | (with_reducible refine Kd.C_drew ?_)))
            (case side2 => exact HC278_0.out)
            rintro e w31 ⟨rfl, hb⟩
            refine ⟨_, rfl, ?_⟩
            have n0_ := xm (blk_below (g := gb277) (o := .cells #[.int .i64 a0_0, .slice (some ad278) l0_1.length c0_1] 41 (0, 0)) (by (with_reducible repeat (first | refine xq ?_ _ | refine xr ?_ | refine xo ?_ _)); exact BK277.out) hb)
            have n1_ := xm (blk_below (g := gb279) (o := .cells #[.slice A278_0 ((rd_T126 l0_1 x8_1).f0.f0).length c278_0, .int .i64 ((rd_T126 l0_1 x8_1).f1)] 126 (0, 0)) (by (with_reducible repeat (first | refine xq ?_ _ | refine xr ?_ | refine xo ?_ _)); exact BK279.out) hb)
            have n2_ := xm (below_step (by repeat (first | (with_reducible first | exact HB.out | apply xa | apply xn | apply xd | refine xt ?_ GE277.out | refine xt ?_ GE279.out) | exact HB.out)) hb)
            clear BK277
            clear BK279
            clear HB
            have BK277 := n0_
            have BK279 := n1_
            have HB := n2_
            clear n0_ n1_ n2_
            (try clear hb)
            (try clear hb2)
            (try clear hk)
            (try clear hi)
            refine hK.out _ _ ⟨(xc BK279.out 0).trans rfl, (xc BK279.out 1).trans rfl, (xc BK277.out 0).trans rfl, (xc BK277.out 1).trans rfl⟩ (fun hHeld => ?_)
            clear hK K
            refine norm_ (a' := ?_) ?_ ?_
            rotate_left
            ·show Act.put _ (some 15) _ = _
             simp only [Act.put, xi, xj, xk, i64_w, i32_w]
             rfl
            refine px 3 41 15 (any_of HT_.out (by kernel_rfl)) ?_
            refine px 4 41 31 (any_of HT_.out (by kernel_rfl)) ?_
            refine px 5 41 63 (any_of HT_.out (by kernel_rfl)) ?_
            refine px 6 41 127 (any_of HT_.out (by kernel_rfl)) ?_
            refine px 9 41 639 (any_of HT_.out (by kernel_rfl)) ?_
            refine tx 7 41 767 rfl rfl (take_ofW HT_.out HW_.out (by kernel_rfl)) hHeld (by rintro w' ⟨s0, s1, s2, s3⟩; go_simp; with_reducible rfl) ?_
            refine px 8 41 1023 (any_of HT_.out (by kernel_rfl)) ?_
            refine tx 10 41 2047 rfl rfl (take_ofW HT_.out HW_.out (by kernel_rfl)) hHeld (by rintro w' ⟨s0, s1, s2, s3⟩; go_simp; with_reducible rfl) ?_
            refine px 11 41 4095 (any_of HT_.out (by kernel_rfl)) ?_
            refine px 12 41 8191 (any_of HT_.out (by kernel_rfl)) ?_
            refine px 13 41 16383 (any_of HT_.out (by kernel_rfl)) ?_
            refine px 14 41 32767 (any_of HT_.out (by kernel_rfl)) ?_
            refine tx 15 41 65535 rfl rfl (take_ofW HT_.out HW_.out (by kernel_rfl)) hHeld (by rintro w' ⟨s0, s1, s2, s3⟩; go_simp; with_reducible rfl) ?_
            refine one_ (i := 16) (N := some 29) #[Y,Y,Y,Y,Y,Y,Y,Y,Y,Y,Y,Y,Y,Y,Y,Y,Y,Z,Z,Z,Z,Z,Z,Z,Z,Z,Z,Z,Z,Z,Z,Z,Z,Z,Z,Z,Z,Z,Z,Z,Z] rfl rfl (one_of HT_.out (by kernel_rfl)) (by decide) (fun K hK => ?_)
            refine goes_ Try.func103 (by kernel_rfl) rfl #[.int .i64 ((rd_T126 l0_1 x8_1).f1)] (by rfl) rfl rfl (by (try simp only [List.map_toArray, List.map_cons, List.map_nil]); first | done | rfl | (simp only [List.length_drop, List.length_take]; rfl)) ?_
            with_reducible refine (spec_l2Weight.calls ((rd_T126 l0_1 x8_1).f1) true _ A14.out).mono ?_
            rintro e w' ⟨rfl, ⟨nd, rfl⟩⟩
            refine ⟨_, rfl, ?_⟩
            refine hK.out _ _ ⟨(xc BK279.out 0).trans rfl, (xc BK279.out 1).trans rfl, (xc BK277.out 0).trans rfl, (xc BK277.out 1).trans rfl⟩ (fun hHeld => ?_)
            clear hK K
            refine norm_ (a' := ?_) ?_ ?_
            rotate_left
            ·show Act.put _ (some 29) _ = _
             simp only [Act.put, xi, xj, xk, i64_w, i32_w]
             rfl
            refine px 17 41 262143 (any_of HT_.out (by kernel_rfl)) ?_
            refine px 18 41 524287 (any_of HT_.out (by kernel_rfl)) ?_
            refine px 19 41 1048575 (any_of HT_.out (by kernel_rfl)) ?_
            refine px 20 41 2097151 (any_of HT_.out (by kernel_rfl)) ?_
            refine tx 21 41 4194303 rfl rfl (take_ofW HT_.out HW_.out (by kernel_rfl)) hHeld (by rintro w' ⟨s0, s1, s2, s3⟩; go_simp; with_reducible rfl) ?_
            refine px 22 41 8388607 (any_of HT_.out (by kernel_rfl)) ?_
            refine px 23 41 16777215 (any_of HT_.out (by kernel_rfl)) ?_
            refine px 24 41 33554431 (any_of HT_.out (by kernel_rfl)) ?_
            refine px 25 41 67108863 (any_of HT_.out (by kernel_rfl)) ?_
            refine px 26 41 134217727 (any_of HT_.out (by kernel_rfl)) ?_
            refine px 27 41 268435455 (any_of HT_.out (by kernel_rfl)) ?_
            refine ox 28 41 536870911 (any_of HT_.out (by kernel_rfl)) ?_
            refine ox 29 41 1073741823 (any_of HT_.out (by kernel_rfl)) ?_
            refine ox 30 41 2147483647 (any_of HT_.out (by kernel_rfl)) ?_
            refine ox 31 41 4294967295 (any_of HT_.out (by kernel_rfl)) ?_
            refine ox 32 41 8589934591 (any_of HT_.out (by kernel_rfl)) ?_
            refine ox 33 41 17179869183 (any_of HT_.out (by kernel_rfl)) ?_
            refine ox 34 41 34359738367 (any_of HT_.out (by kernel_rfl)) ?_
            refine ox 35 41 68719476735 (any_of HT_.out (by kernel_rfl)) ?_
            refine ox 36 41 137438953471 (any_of HT_.out (by kernel_rfl)) ?_
            refine ox 37 41 274877906943 (any_of HT_.out (by kernel_rfl)) ?_
            refine ox 38 41 549755813887 (any_of HT_.out (by kernel_rfl)) ?_
            refine px 39 41 1099511627775 (any_of HT_.out (by kernel_rfl)) ?_
            refine px 40 41 2199023255551 (any_of HT_.out (by kernel_rfl)) ?_
            refine done_ (done_of HT_.out (by kernel_rfl)) ?_
            try go_wp2
            go_meet
            case rel => exact ⟨_, (false), (by first | rfl | (simp; done) | (simp [*]; done)), H', ⟨by have := HK1.out; first | omega | exact Nat.le_refl _⟩, ⟨by (with_reducible repeat (first | refine xq ?_ _ | refine xr ?_ | refine xo ?_ _)); exact BK277.out⟩, ⟨by (with_reducible repeat (first | refine xq ?_ _ | refine xr ?_ | refine xo ?_ _)); exact BK279.out⟩, ⟨by repeat (first | (with_reducible first | exact HB.out | apply xa | apply xn | apply xd | refine xt ?_ GE277.out | refine xt ?_ GE279.out) | exact HB.out)⟩⟩
         ·replace c15 := Bool.eq_false_iff.mpr c15
          subst c15
          have H1 : (spec_GoodTable.j1 k1 l0_1 (l0_1.length : Int) x8_1 true a0_0 l0_1) = some r := by first | (with_reducible rfl) | (rw [if_neg (show ¬ (false = true) by decide)] at H; exact H)
          clear H
          have H := H1
          clear H1
          have H' := xm H
          clear H
          try go_wp2
          have n0_ : Aside0 (((w8.setCell ⟨gb279, 0, none⟩ (.slice A278_0 ((rd_T126 l0_1 x8_1).f0.f0).length c278_0)).setCell ⟨gb279, 1, none⟩ (.int .i64 ((rd_T126 l0_1 x8_1).f1))).heap[gb277]? = some (.cells #[.int .i64 a0_0, .slice (some ad278) l0_1.length c0_1] 41 (0, 0))) := ⟨by (with_reducible repeat (first | refine xq ?_ _ | refine xr ?_ | refine xo ?_ _)); refine blk_far ?_ NB277_279.out _; (with_reducible repeat (first | refine xq ?_ _ | refine xr ?_ | refine xo ?_ _)); refine blk_far ?_ NB277_279.out _; (with_reducible repeat (first | refine xq ?_ _ | refine xr ?_ | refine xo ?_ _)); exact BK277.out⟩
          have n1_ : Aside0 (((w8.setCell ⟨gb279, 0, none⟩ (.slice A278_0 ((rd_T126 l0_1 x8_1).f0.f0).length c278_0)).setCell ⟨gb279, 1, none⟩ (.int .i64 ((rd_T126 l0_1 x8_1).f1))).heap[gb279]? = some (.cells #[.slice A278_0 ((rd_T126 l0_1 x8_1).f0.f0).length c278_0, .int .i64 ((rd_T126 l0_1 x8_1).f1)] 126 (0, 0))) := ⟨by (with_reducible repeat (first | refine xq ?_ _ | refine xr ?_ | refine xo ?_ _)); refine blk_put (cs := #[.slice A278_0 ((rd_T126 l0_1 x8_1).f0.f0).length c278_0, .int .i64 0]) ?_ 1 _ rfl; (with_reducible repeat (first | refine xq ?_ _ | refine xr ?_ | refine xo ?_ _)); refine blk_put (cs := #[.slice none 0 0, .int .i64 0]) ?_ 0 _ rfl; (with_reducible repeat (first | refine xq ?_ _ | refine xr ?_ | refine xo ?_ _)); exact BK279.out⟩
          have n2_ : Aside0 (Below w.heap.size w ((w8.setCell ⟨gb279, 0, none⟩ (.slice A278_0 ((rd_T126 l0_1 x8_1).f0.f0).length c278_0)).setCell ⟨gb279, 1, none⟩ (.int .i64 ((rd_T126 l0_1 x8_1).f1)))) := ⟨by repeat (first | (with_reducible first | exact HB.out | apply xa | apply xn | apply xd | refine xt ?_ GE277.out | refine xt ?_ GE279.out) | exact HB.out)⟩
          (try clear BK277)
          (try clear BK279)
          (try clear HB)
          generalize ((w8.setCell ⟨gb279, 0, none⟩ (.slice A278_0 ((rd_T126 l0_1 x8_1).f0.f0).length c278_0)).setCell ⟨gb279, 1, none⟩ (.int .i64 ((rd_T126 l0_1 x8_1).f1))) = w32 at n0_ n1_ n2_ ⊢
          have BK277 := n0_
          have BK279 := n1_
          have HB := n2_
          clear n0_ n1_ n2_
          have n0_ := xm (xr BK277.out)
          have n1_ := xm (xr BK279.out)
          have n2_ := xm (xd HB.out)
          clear BK277
          clear BK279
          clear HB
          have BK277 := n0_
          have BK279 := n1_
          have HB := n2_
          clear n0_ n1_ n2_
          refine start_ (n := 41) (S := fun w' => w'.cell? ⟨gb279, 0, none⟩ = some (.slice A278_0 ((rd_T126 l0_1 x8_1).f0.f0).length c278_0) ∧ w'.cell? ⟨gb279, 1, none⟩ = some (.int .i64 ((rd_T126 l0_1 x8_1).f1)) ∧ w'.cell? ⟨gb277, 0, none⟩ = some (.int .i64 a0_0) ∧ w'.cell? ⟨gb277, 1, none⟩ = some (.slice (some ad278) l0_1.length c0_1)) (ds := []) #[Z,Z,Z,Z,Z,Z,Z,Z,Z,Z,Z,Z,Z,Z,Z,Z,Z,Z,Z,Z,Z,Z,Z,Z,Z,Z,Z,Z,Z,Z,Z,Z,Z,Z,Z,Z,Z,Z,Z,Z,Z] (by kernel_rfl) rfl rfl ⟨(xc BK279.out 0).trans rfl, (xc BK279.out 1).trans rfl, (xc BK277.out 0).trans rfl, (xc BK277.out 1).trans rfl⟩ (fun hHeld => ?_); refine with_tabW spec_GoodTable.tab4 spec_GoodTable.bits4 (fun HT_ HW_ => ?_)
          generalize w32.drew = w33 at BK277 BK279 HB hHeld ⊢
          refine px 0 41 1 (any_of HT_.out (by kernel_rfl)) ?_
          refine tx 1 41 3 rfl rfl (take_ofW HT_.out HW_.out (by kernel_rfl)) hHeld (by rintro w' ⟨s0, s1, s2, s3⟩; go_simp; with_reducible rfl) ?_
          refine one_ (i := 2) (N := some 15) #[Y,Y,Y,Z,Z,Z,Z,Z,Z,Z,Z,Z,Z,Z,Z,Z,Z,Z,Z,Z,Z,Z,Z,Z,Z,Z,Z,Z,Z,Z,Z,Z,Z,Z,Z,Z,Z,Z,Z,Z,Z] rfl rfl (one_of HT_.out (by kernel_rfl)) (by decide) (fun K hK => ?_)
          refine goes_ Try.func82 (by kernel_rfl) rfl #[.agg #[.slice A278_0 ((rd_T126 l0_1 x8_1).f0.f0).length c278_0]] (by rfl) rfl rfl (by (try simp only [List.map_toArray, List.map_cons, List.map_nil]); first | done | rfl | (simp only [List.length_drop, List.length_take]; rfl)) ?_
          with_reducible refine (spec_GoodRow.calls k1 _ _ ((rd_T126 l0_1 x8_1).f0.f0) true _ ?side1 ?side2 A11.out).mono ?_
          (case side1 => repeat (first | exact (Kd.C_below HR278_0.out HB.out) | (with_reducible refine Kd.C_alloc ?_ _) | (with_reducible refine Kd.C_drewN ?_ _) | (with_reducible refine Kd.C_drew ?_)))
          (case side2 => exact HC278_0.out)
          rintro e w34 ⟨rfl, hb⟩
          refine ⟨_, rfl, ?_⟩
          have n0_ := xm (blk_below (g := gb277) (o := .cells #[.int .i64 a0_0, .slice (some ad278) l0_1.length c0_1] 41 (0, 0)) (by (with_reducible repeat (first | refine xq ?_ _ | refine xr ?_ | refine xo ?_ _)); exact BK277.out) hb)
          have n1_ := xm (blk_below (g := gb279) (o := .cells #[.slice A278_0 ((rd_T126 l0_1 x8_1).f0.f0).length c278_0, .int .i64 ((rd_T126 l0_1 x8_1).f1)] 126 (0, 0)) (by (with_reducible repeat (first | refine xq ?_ _ | refine xr ?_ | refine xo ?_ _)); exact BK279.out) hb)
          have n2_ := xm (below_step (by repeat (first | (with_reducible first | exact HB.out | apply xa | apply xn | apply xd | refine xt ?_ GE277.out | refine xt ?_ GE279.out) | exact HB.out)) hb)
          clear BK277
          clear BK279
          clear HB
          have BK277 := n0_
          have BK279 := n1_
          have HB := n2_
          clear n0_ n1_ n2_
          (try clear hb)
          (try clear hb2)
          (try clear hk)
          (try clear hi)
          refine hK.out _ _ ⟨(xc BK279.out 0).trans rfl, (xc BK279.out 1).trans rfl, (xc BK277.out 0).trans rfl, (xc BK277.out 1).trans rfl⟩ (fun hHeld => ?_)
          clear hK K
          refine norm_ (a' := ?_) ?_ ?_
          rotate_left
          ·show Act.put _ (some 15) _ = _
           simp only [Act.put, xi, xj, xk, i64_w, i32_w]
           rfl
          refine px 3 41 15 (any_of HT_.out (by kernel_rfl)) ?_
          refine px 4 41 31 (any_of HT_.out (by kernel_rfl)) ?_
          refine px 5 41 63 (any_of HT_.out (by kernel_rfl)) ?_
          refine px 6 41 127 (any_of HT_.out (by kernel_rfl)) ?_
          refine px 9 41 639 (any_of HT_.out (by kernel_rfl)) ?_
          refine tx 7 41 767 rfl rfl (take_ofW HT_.out HW_.out (by kernel_rfl)) hHeld (by rintro w' ⟨s0, s1, s2, s3⟩; go_simp; with_reducible rfl) ?_
          refine px 8 41 1023 (any_of HT_.out (by kernel_rfl)) ?_
          refine tx 10 41 2047 rfl rfl (take_ofW HT_.out HW_.out (by kernel_rfl)) hHeld (by rintro w' ⟨s0, s1, s2, s3⟩; go_simp; with_reducible rfl) ?_
          refine px 11 41 4095 (any_of HT_.out (by kernel_rfl)) ?_
          refine px 12 41 8191 (any_of HT_.out (by kernel_rfl)) ?_
          refine px 13 41 16383 (any_of HT_.out (by kernel_rfl)) ?_
          refine px 14 41 32767 (any_of HT_.out (by kernel_rfl)) ?_
          refine tx 15 41 65535 rfl rfl (take_ofW HT_.out HW_.out (by kernel_rfl)) hHeld (by rintro w' ⟨s0, s1, s2, s3⟩; go_simp; with_reducible rfl) ?_
          refine one_ (i := 16) (N := some 29) #[Y,Y,Y,Y,Y,Y,Y,Y,Y,Y,Y,Y,Y,Y,Y,Y,Y,Z,Z,Z,Z,Z,Z,Z,Z,Z,Z,Z,Z,Z,Z,Z,Z,Z,Z,Z,Z,Z,Z,Z,Z] rfl rfl (one_of HT_.out (by kernel_rfl)) (by decide) (fun K hK => ?_)
          refine goes_ Try.func103 (by kernel_rfl) rfl #[.int .i64 ((rd_T126 l0_1 x8_1).f1)] (by rfl) rfl rfl (by (try simp only [List.map_toArray, List.map_cons, List.map_nil]); first | done | rfl | (simp only [List.length_drop, List.length_take]; rfl)) ?_
          with_reducible refine (spec_l2Weight.calls ((rd_T126 l0_1 x8_1).f1) false _ A14.out).mono ?_
          rintro e w' ⟨rfl, ⟨nd, rfl⟩⟩
          refine ⟨_, rfl, ?_⟩
          refine hK.out _ _ ⟨(xc BK279.out 0).trans rfl, (xc BK279.out 1).trans rfl, (xc BK277.out 0).trans rfl, (xc BK277.out 1).trans rfl⟩ (fun hHeld => ?_)
          clear hK K
          refine norm_ (a' := ?_) ?_ ?_
          rotate_left
          ·show Act.put _ (some 29) _ = _
           simp only [Act.put, xi, xj, xk, i64_w, i32_w]
           rfl
          refine px 17 41 262143 (any_of HT_.out (by kernel_rfl)) ?_
          refine px 18 41 524287 (any_of HT_.out (by kernel_rfl)) ?_
          refine px 19 41 1048575 (any_of HT_.out (by kernel_rfl)) ?_
          refine ox 20 41 2097151 (any_of HT_.out (by kernel_rfl)) ?_
          refine ox 21 41 4194303 (any_of HT_.out (by kernel_rfl)) ?_
          refine ox 22 41 8388607 (any_of HT_.out (by kernel_rfl)) ?_
          refine px 23 41 16777215 (any_of HT_.out (by kernel_rfl)) ?_
          refine px 24 41 33554431 (any_of HT_.out (by kernel_rfl)) ?_
          refine ox 25 41 67108863 (any_of HT_.out (by kernel_rfl)) ?_
          refine ox 26 41 134217727 (any_of HT_.out (by kernel_rfl)) ?_
          refine ox 27 41 268435455 (any_of HT_.out (by kernel_rfl)) ?_
          refine ox 28 41 536870911 (any_of HT_.out (by kernel_rfl)) ?_
          refine ox 29 41 1073741823 (any_of HT_.out (by kernel_rfl)) ?_
          refine ox 30 41 2147483647 (any_of HT_.out (by kernel_rfl)) ?_
          refine ox 31 41 4294967295 (any_of HT_.out (by kernel_rfl)) ?_
          refine ox 32 41 8589934591 (any_of HT_.out (by kernel_rfl)) ?_
          refine ox 33 41 17179869183 (any_of HT_.out (by kernel_rfl)) ?_
          refine ox 34 41 34359738367 (any_of HT_.out (by kernel_rfl)) ?_
          refine ox 35 41 68719476735 (any_of HT_.out (by kernel_rfl)) ?_
          refine ox 36 41 137438953471 (any_of HT_.out (by kernel_rfl)) ?_
          refine ox 37 41 274877906943 (any_of HT_.out (by kernel_rfl)) ?_
          refine ox 38 41 549755813887 (any_of HT_.out (by kernel_rfl)) ?_
          refine ox 39 41 1099511627775 (any_of HT_.out (by kernel_rfl)) ?_
          refine px 40 41 2199023255551 (any_of HT_.out (by kernel_rfl)) ?_
          refine done_ (done_of HT_.out (by kernel_rfl)) ?_
          try go_wp2
          go_meet
          case rel => exact ⟨_, (true), (by first | rfl | (simp; done) | (simp [*]; done)), H', ⟨by have := HK1.out; first | omega | exact Nat.le_refl _⟩, ⟨by (with_reducible repeat (first | refine xq ?_ _ | refine xr ?_ | refine xo ?_ _)); exact BK277.out⟩, ⟨by (with_reducible repeat (first | refine xq ?_ _ | refine xr ?_ | refine xo ?_ _)); exact BK279.out⟩, ⟨by repeat (first | (with_reducible first | exact HB.out | apply xa | apply xn | apply xd | refine xt ?_ GE277.out | refine xt ?_ GE279.out) | exact HB.out)⟩⟩
        ·rw [if_neg c13] at H
         have c13b0 : ((((rd_T126 l0_1 x8_1).f0.f0).length : Int) == a0_0) = false := beq_eq_false_iff_ne.mpr c13
         have c13b1 : ((((rd_T126 l0_1 x8_1).f0.f0).length : Int) != a0_0) = true := bne_iff_ne.mpr c13
         (first | rw [c13b0] | (simp only [i64_w, i32_w]; rw [c13b0]) | skip)
         have H' := xm H
         clear H
         try go_wp2
         have n0_ : Aside0 (((w8.setCell ⟨gb279, 0, none⟩ (.slice A278_0 ((rd_T126 l0_1 x8_1).f0.f0).length c278_0)).setCell ⟨gb279, 1, none⟩ (.int .i64 ((rd_T126 l0_1 x8_1).f1))).heap[gb277]? = some (.cells #[.int .i64 a0_0, .slice (some ad278) l0_1.length c0_1] 41 (0, 0))) := ⟨by (with_reducible repeat (first | refine xq ?_ _ | refine xr ?_ | refine xo ?_ _)); refine blk_far ?_ NB277_279.out _; (with_reducible repeat (first | refine xq ?_ _ | refine xr ?_ | refine xo ?_ _)); refine blk_far ?_ NB277_279.out _; (with_reducible repeat (first | refine xq ?_ _ | refine xr ?_ | refine xo ?_ _)); exact BK277.out⟩
         have n1_ : Aside0 (((w8.setCell ⟨gb279, 0, none⟩ (.slice A278_0 ((rd_T126 l0_1 x8_1).f0.f0).length c278_0)).setCell ⟨gb279, 1, none⟩ (.int .i64 ((rd_T126 l0_1 x8_1).f1))).heap[gb279]? = some (.cells #[.slice A278_0 ((rd_T126 l0_1 x8_1).f0.f0).length c278_0, .int .i64 ((rd_T126 l0_1 x8_1).f1)] 126 (0, 0))) := ⟨by (with_reducible repeat (first | refine xq ?_ _ | refine xr ?_ | refine xo ?_ _)); refine blk_put (cs := #[.slice A278_0 ((rd_T126 l0_1 x8_1).f0.f0).length c278_0, .int .i64 0]) ?_ 1 _ rfl; (with_reducible repeat (first | refine xq ?_ _ | refine xr ?_ | refine xo ?_ _)); refine blk_put (cs := #[.slice none 0 0, .int .i64 0]) ?_ 0 _ rfl; (with_reducible repeat (first | refine xq ?_ _ | refine xr ?_ | refine xo ?_ _)); exact BK279.out⟩
         have n2_ : Aside0 (Below w.heap.size w ((w8.setCell ⟨gb279, 0, none⟩ (.slice A278_0 ((rd_T126 l0_1 x8_1).f0.f0).length c278_0)).setCell ⟨gb279, 1, none⟩ (.int .i64 ((rd_T126 l0_1 x8_1).f1)))) := ⟨by repeat (first | (with_reducible first | exact HB.out | apply xa | apply xn | apply xd | refine xt ?_ GE277.out | refine xt ?_ GE279.out) | exact HB.out)⟩
         (try clear BK277)
         (try clear BK279)
         (try clear HB)
         generalize ((w8.setCell ⟨gb279, 0, none⟩ (.slice A278_0 ((rd_T126 l0_1 x8_1).f0.f0).length c278_0)).setCell ⟨gb279, 1, none⟩ (.int .i64 ((rd_T126 l0_1 x8_1).f1))) = w35 at n0_ n1_ n2_ ⊢
         have BK277 := n0_
         have BK279 := n1_
         have HB := n2_
         clear n0_ n1_ n2_
         have n0_ := xm (xr BK277.out)
         have n1_ := xm (xr BK279.out)
         have n2_ := xm (xd HB.out)
         clear BK277
         clear BK279
         clear HB
         have BK277 := n0_
         have BK279 := n1_
         have HB := n2_
         clear n0_ n1_ n2_
         refine start_ (n := 41) (S := fun w' => w'.cell? ⟨gb279, 0, none⟩ = some (.slice A278_0 ((rd_T126 l0_1 x8_1).f0.f0).length c278_0) ∧ w'.cell? ⟨gb279, 1, none⟩ = some (.int .i64 ((rd_T126 l0_1 x8_1).f1)) ∧ w'.cell? ⟨gb277, 0, none⟩ = some (.int .i64 a0_0) ∧ w'.cell? ⟨gb277, 1, none⟩ = some (.slice (some ad278) l0_1.length c0_1)) (ds := []) #[Z,Z,Z,Z,Z,Z,Z,Z,Z,Z,Z,Z,Z,Z,Z,Z,Z,Z,Z,Z,Z,Z,Z,Z,Z,Z,Z,Z,Z,Z,Z,Z,Z,Z,Z,Z,Z,Z,Z,Z,Z] (by kernel_rfl) rfl rfl ⟨(xc BK279.out 0).trans rfl, (xc BK279.out 1).trans rfl, (xc BK277.out 0).trans rfl, (xc BK277.out 1).trans rfl⟩ (fun hHeld => ?_); refine with_tabW spec_GoodTable.tab4 spec_GoodTable.bits4 (fun HT_ HW_ => ?_)
         generalize w35.drew = w36 at BK277 BK279 HB hHeld ⊢
         refine px 0 41 1 (any_of HT_.out (by kernel_rfl)) ?_
         refine tx 1 41 3 rfl rfl (take_ofW HT_.out HW_.out (by kernel_rfl)) hHeld (by rintro w' ⟨s0, s1, s2, s3⟩; go_simp; with_reducible rfl) ?_
         refine one_ (i := 2) (N := some 15) #[Y,Y,Y,Z,Z,Z,Z,Z,Z,Z,Z,Z,Z,Z,Z,Z,Z,Z,Z,Z,Z,Z,Z,Z,Z,Z,Z,Z,Z,Z,Z,Z,Z,Z,Z,Z,Z,Z,Z,Z,Z] rfl rfl (one_of HT_.out (by kernel_rfl)) (by decide) (fun K hK => ?_)
         refine goes_ Try.func82 (by kernel_rfl) rfl #[.agg #[.slice A278_0 ((rd_T126 l0_1 x8_1).f0.f0).length c278_0]] (by rfl) rfl rfl (by (try simp only [List.map_toArray, List.map_cons, List.map_nil]); first | done | rfl | (simp only [List.length_drop, List.length_take]; rfl)) ?_
         with_reducible refine (spec_GoodRow.calls k1 _ _ ((rd_T126 l0_1 x8_1).f0.f0) true _ ?side1 ?side2 A11.out).mono ?_
         (case side1 => repeat (first | exact (Kd.C_below HR278_0.out HB.out) | (with_reducible refine Kd.C_alloc ?_ _) | (with_reducible refine Kd.C_drewN ?_ _) | (with_reducible refine Kd.C_drew ?_)))
         (case side2 => exact HC278_0.out)
         rintro e w37 ⟨rfl, hb⟩
         refine ⟨_, rfl, ?_⟩
         have n0_ := xm (blk_below (g := gb277) (o := .cells #[.int .i64 a0_0, .slice (some ad278) l0_1.length c0_1] 41 (0, 0)) (by (with_reducible repeat (first | refine xq ?_ _ | refine xr ?_ | refine xo ?_ _)); exact BK277.out) hb)
         have n1_ := xm (blk_below (g := gb279) (o := .cells #[.slice A278_0 ((rd_T126 l0_1 x8_1).f0.f0).length c278_0, .int .i64 ((rd_T126 l0_1 x8_1).f1)] 126 (0, 0)) (by (with_reducible repeat (first | refine xq ?_ _ | refine xr ?_ | refine xo ?_ _)); exact BK279.out) hb)
         have n2_ := xm (below_step (by repeat (first | (with_reducible first | exact HB.out | apply xa | apply xn | apply xd | refine xt ?_ GE277.out | refine xt ?_ GE279.out) | exact HB.out)) hb)
         clear BK277
         clear BK279
         clear HB
         have BK277 := n0_
         have BK279 := n1_
         have HB := n2_
         clear n0_ n1_ n2_
         (try clear hb)
         (try clear hb2)
         (try clear hk)
         (try clear hi)
         refine hK.out _ _ ⟨(xc BK279.out 0).trans rfl, (xc BK279.out 1).trans rfl, (xc BK277.out 0).trans rfl, (xc BK277.out 1).trans rfl⟩ (fun hHeld => ?_)
         clear hK K
         refine norm_ (a' := ?_) ?_ ?_
         rotate_left
         ·show Act.put _ (some 15) _ = _
          simp only [Act.put, xi, xj, xk, i64_w, i32_w]
          rfl
         refine px 3 41 15 (any_of HT_.out (by kernel_rfl)) ?_
         refine px 4 41 31 (any_of HT_.out (by kernel_rfl)) ?_
         refine px 5 41 63 (any_of HT_.out (by kernel_rfl)) ?_
         refine px 6 41 127 (any_of HT_.out (by kernel_rfl)) ?_
         refine px 9 41 639 (any_of HT_.out (by kernel_rfl)) ?_
         refine tx 7 41 767 rfl rfl (take_ofW HT_.out HW_.out (by kernel_rfl)) hHeld (by rintro w' ⟨s0, s1, s2, s3⟩; go_simp; with_reducible rfl) ?_
         refine px 8 41 1023 (any_of HT_.out (by kernel_rfl)) ?_
         refine tx 10 41 2047 rfl rfl (take_ofW HT_.out HW_.out (by kernel_rfl)) hHeld (by rintro w' ⟨s0, s1, s2, s3⟩; go_simp; with_reducible rfl) ?_
         refine px 11 41 4095 (any_of HT_.out (by kernel_rfl)) ?_
         refine px 12 41 8191 (any_of HT_.out (by kernel_rfl)) ?_
         refine px 13 41 16383 (any_of HT_.out (by kernel_rfl)) ?_
         refine ox 14 41 32767 (any_of HT_.out (by kernel_rfl)) ?_
         refine ox 15 41 65535 (any_of HT_.out (by kernel_rfl)) ?_
         refine ox 16 41 131071 (any_of HT_.out (by kernel_rfl)) ?_
         refine ox 17 41 262143 (any_of HT_.out (by kernel_rfl)) ?_
         refine px 18 41 524287 (any_of HT_.out (by kernel_rfl)) ?_
         refine px 19 41 1048575 (any_of HT_.out (by kernel_rfl)) ?_
         refine ox 20 41 2097151 (any_of HT_.out (by kernel_rfl)) ?_
         refine ox 21 41 4194303 (any_of HT_.out (by kernel_rfl)) ?_
         refine ox 22 41 8388607 (any_of HT_.out (by kernel_rfl)) ?_
         refine px 23 41 16777215 (any_of HT_.out (by kernel_rfl)) ?_
         refine px 24 41 33554431 (any_of HT_.out (by kernel_rfl)) ?_
         refine ox 25 41 67108863 (any_of HT_.out (by kernel_rfl)) ?_
         refine ox 26 41 134217727 (any_of HT_.out (by kernel_rfl)) ?_
         refine ox 27 41 268435455 (any_of HT_.out (by kernel_rfl)) ?_
         refine ox 28 41 536870911 (any_of HT_.out (by kernel_rfl)) ?_
         refine ox 29 41 1073741823 (any_of HT_.out (by kernel_rfl)) ?_
         refine ox 30 41 2147483647 (any_of HT_.out (by kernel_rfl)) ?_
         refine ox 31 41 4294967295 (any_of HT_.out (by kernel_rfl)) ?_
         refine ox 32 41 8589934591 (any_of HT_.out (by kernel_rfl)) ?_
         refine ox 33 41 17179869183 (any_of HT_.out (by kernel_rfl)) ?_
         refine ox 34 41 34359738367 (any_of HT_.out (by kernel_rfl)) ?_
         refine ox 35 41 68719476735 (any_of HT_.out (by kernel_rfl)) ?_
         refine ox 36 41 137438953471 (any_of HT_.out (by kernel_rfl)) ?_
         refine ox 37 41 274877906943 (any_of HT_.out (by kernel_rfl)) ?_
         refine ox 38 41 549755813887 (any_of HT_.out (by kernel_rfl)) ?_
         refine ox 39 41 1099511627775 (any_of HT_.out (by kernel_rfl)) ?_
         refine px 40 41 2199023255551 (any_of HT_.out (by kernel_rfl)) ?_
         refine done_ (done_of HT_.out (by kernel_rfl)) ?_
         try go_wp2
         go_meet
         case rel => exact ⟨_, (true), (by first | rfl | (simp; done) | (simp [*]; done)), H', ⟨by have := HK1.out; first | omega | exact Nat.le_refl _⟩, ⟨by (with_reducible repeat (first | refine xq ?_ _ | refine xr ?_ | refine xo ?_ _)); exact BK277.out⟩, ⟨by (with_reducible repeat (first | refine xq ?_ _ | refine xr ?_ | refine xo ?_ _)); exact BK279.out⟩, ⟨by repeat (first | (with_reducible first | exact HB.out | apply xa | apply xn | apply xd | refine xt ?_ GE277.out | refine xt ?_ GE279.out) | exact HB.out)⟩⟩
       ·replace c12 := Bool.eq_false_iff.mpr c12
        subst c12
        have H1 : (spec_GoodTable.j1 k1 l0_1 (l0_1.length : Int) x8_1 true a0_0 l0_1) = some r := by first | (with_reducible rfl) | (rw [if_neg (show ¬ (false = true) by decide)] at H; exact H)
        clear H
        have H := H1
        clear H1
        have H' := xm H
        clear H
        try go_wp2
        have n0_ : Aside0 (((w8.setCell ⟨gb279, 0, none⟩ (.slice A278_0 ((rd_T126 l0_1 x8_1).f0.f0).length c278_0)).setCell ⟨gb279, 1, none⟩ (.int .i64 ((rd_T126 l0_1 x8_1).f1))).heap[gb277]? = some (.cells #[.int .i64 a0_0, .slice (some ad278) l0_1.length c0_1] 41 (0, 0))) := ⟨by (with_reducible repeat (first | refine xq ?_ _ | refine xr ?_ | refine xo ?_ _)); refine blk_far ?_ NB277_279.out _; (with_reducible repeat (first | refine xq ?_ _ | refine xr ?_ | refine xo ?_ _)); refine blk_far ?_ NB277_279.out _; (with_reducible repeat (first | refine xq ?_ _ | refine xr ?_ | refine xo ?_ _)); exact BK277.out⟩
        have n1_ : Aside0 (((w8.setCell ⟨gb279, 0, none⟩ (.slice A278_0 ((rd_T126 l0_1 x8_1).f0.f0).length c278_0)).setCell ⟨gb279, 1, none⟩ (.int .i64 ((rd_T126 l0_1 x8_1).f1))).heap[gb279]? = some (.cells #[.slice A278_0 ((rd_T126 l0_1 x8_1).f0.f0).length c278_0, .int .i64 ((rd_T126 l0_1 x8_1).f1)] 126 (0, 0))) := ⟨by (with_reducible repeat (first | refine xq ?_ _ | refine xr ?_ | refine xo ?_ _)); refine blk_put (cs := #[.slice A278_0 ((rd_T126 l0_1 x8_1).f0.f0).length c278_0, .int .i64 0]) ?_ 1 _ rfl; (with_reducible repeat (first | refine xq ?_ _ | refine xr ?_ | refine xo ?_ _)); refine blk_put (cs := #[.slice none 0 0, .int .i64 0]) ?_ 0 _ rfl; (with_reducible repeat (first | refine xq ?_ _ | refine xr ?_ | refine xo ?_ _)); exact BK279.out⟩
        have n2_ : Aside0 (Below w.heap.size w ((w8.setCell ⟨gb279, 0, none⟩ (.slice A278_0 ((rd_T126 l0_1 x8_1).f0.f0).length c278_0)).setCell ⟨gb279, 1, none⟩ (.int .i64 ((rd_T126 l0_1 x8_1).f1)))) := ⟨by repeat (first | (with_reducible first | exact HB.out | apply xa | apply xn | apply xd | refine xt ?_ GE277.out | refine xt ?_ GE279.out) | exact HB.out)⟩
        (try clear BK277)
        (try clear BK279)
        (try clear HB)
        generalize ((w8.setCell ⟨gb279, 0, none⟩ (.slice A278_0 ((rd_T126 l0_1 x8_1).f0.f0).length c278_0)).setCell ⟨gb279, 1, none⟩ (.int .i64 ((rd_T126 l0_1 x8_1).f1))) = w38 at n0_ n1_ n2_ ⊢
        have BK277 := n0_
        have BK279 := n1_
        have HB := n2_
        clear n0_ n1_ n2_
        have n0_ := xm (xr BK277.out)
        have n1_ := xm (xr BK279.out)
        have n2_ := xm (xd HB.out)
        clear BK277
        clear BK279
        clear HB
        have BK277 := n0_
        have BK279 := n1_
        have HB := n2_
        clear n0_ n1_ n2_
        refine start_ (n := 41) (S := fun w' => w'.cell? ⟨gb279, 0, none⟩ = some (.slice A278_0 ((rd_T126 l0_1 x8_1).f0.f0).length c278_0) ∧ w'.cell? ⟨gb279, 1, none⟩ = some (.int .i64 ((rd_T126 l0_1 x8_1).f1))) (ds := []) #[Z,Z,Z,Z,Z,Z,Z,Z,Z,Z,Z,Z,Z,Z,Z,Z,Z,Z,Z,Z,Z,Z,Z,Z,Z,Z,Z,Z,Z,Z,Z,Z,Z,Z,Z,Z,Z,Z,Z,Z,Z] (by kernel_rfl) rfl rfl ⟨(xc BK279.out 0).trans rfl, (xc BK279.out 1).trans rfl⟩ (fun hHeld => ?_); refine with_tabW spec_GoodTable.tab4 spec_GoodTable.bits4 (fun HT_ HW_ => ?_)
        generalize w38.drew = w39 at BK277 BK279 HB hHeld ⊢
        refine px 0 41 1 (any_of HT_.out (by kernel_rfl)) ?_
        refine tx 1 41 3 rfl rfl (take_ofW HT_.out HW_.out (by kernel_rfl)) hHeld (by rintro w' ⟨s0, s1⟩; go_simp; with_reducible rfl) ?_
        refine one_ (i := 2) (N := some 15) #[Y,Y,Y,Z,Z,Z,Z,Z,Z,Z,Z,Z,Z,Z,Z,Z,Z,Z,Z,Z,Z,Z,Z,Z,Z,Z,Z,Z,Z,Z,Z,Z,Z,Z,Z,Z,Z,Z,Z,Z,Z] rfl rfl (one_of HT_.out (by kernel_rfl)) (by decide) (fun K hK => ?_)
        refine goes_ Try.func82 (by kernel_rfl) rfl #[.agg #[.slice A278_0 ((rd_T126 l0_1 x8_1).f0.f0).length c278_0]] (by rfl) rfl rfl (by (try simp only [List.map_toArray, List.map_cons, List.map_nil]); first | done | rfl | (simp only [List.length_drop, List.length_take]; rfl)) ?_
        with_reducible refine (spec_GoodRow.calls k1 _ _ ((rd_T126 l0_1 x8_1).f0.f0) false _ ?side1 ?side2 A11.out).mono ?_
        (case side1 => repeat (first | exact (Kd.C_below HR278_0.out HB.out) | (with_reducible refine Kd.C_alloc ?_ _) | (with_reducible refine Kd.C_drewN ?_ _) | (with_reducible refine Kd.C_drew ?_)))
        (case side2 => exact HC278_0.out)
        rintro e w40 ⟨rfl, hb⟩
        refine ⟨_, rfl, ?_⟩
        have n0_ := xm (blk_below (g := gb277) (o := .cells #[.int .i64 a0_0, .slice (some ad278) l0_1.length c0_1] 41 (0, 0)) (by (with_reducible repeat (first | refine xq ?_ _ | refine xr ?_ | refine xo ?_ _)); exact BK277.out) hb)
        have n1_ := xm (blk_below (g := gb279) (o := .cells #[.slice A278_0 ((rd_T126 l0_1 x8_1).f0.f0).length c278_0, .int .i64 ((rd_T126 l0_1 x8_1).f1)] 126 (0, 0)) (by (with_reducible repeat (first | refine xq ?_ _ | refine xr ?_ | refine xo ?_ _)); exact BK279.out) hb)
        have n2_ := xm (below_step (by repeat (first | (with_reducible first | exact HB.out | apply xa | apply xn | apply xd | refine xt ?_ GE277.out | refine xt ?_ GE279.out) | exact HB.out)) hb)
        clear BK277
        clear BK279
        clear HB
        have BK277 := n0_
        have BK279 := n1_
        have HB := n2_
        clear n0_ n1_ n2_
        (try clear hb)
        (try clear hb2)
        (try clear hk)
        (try clear hi)
        refine hK.out _ _ ⟨(xc BK279.out 0).trans rfl, (xc BK279.out 1).trans rfl⟩ (fun hHeld => ?_)
        clear hK K
        refine norm_ (a' := ?_) ?_ ?_
        rotate_left
        ·show Act.put _ (some 15) _ = _
         simp only [Act.put, xi, xj, xk, i64_w, i32_w]
         rfl
        refine px 3 41 15 (any_of HT_.out (by kernel_rfl)) ?_
        refine px 4 41 31 (any_of HT_.out (by kernel_rfl)) ?_
        refine ox 5 41 63 (any_of HT_.out (by kernel_rfl)) ?_
        refine ox 6 41 127 (any_of HT_.out (by kernel_rfl)) ?_
        refine ox 7 41 255 (any_of HT_.out (by kernel_rfl)) ?_
        refine ox 8 41 511 (any_of HT_.out (by kernel_rfl)) ?_
        refine ox 9 41 1023 (any_of HT_.out (by kernel_rfl)) ?_
        refine ox 10 41 2047 (any_of HT_.out (by kernel_rfl)) ?_
        refine ox 11 41 4095 (any_of HT_.out (by kernel_rfl)) ?_
        refine px 12 41 8191 (any_of HT_.out (by kernel_rfl)) ?_
        refine px 13 41 16383 (any_of HT_.out (by kernel_rfl)) ?_
        refine ox 14 41 32767 (any_of HT_.out (by kernel_rfl)) ?_
        refine ox 15 41 65535 (any_of HT_.out (by kernel_rfl)) ?_
        refine ox 16 41 131071 (any_of HT_.out (by kernel_rfl)) ?_
        refine ox 17 41 262143 (any_of HT_.out (by kernel_rfl)) ?_
        refine px 18 41 524287 (any_of HT_.out (by kernel_rfl)) ?_
        refine px 19 41 1048575 (any_of HT_.out (by kernel_rfl)) ?_
        refine ox 20 41 2097151 (any_of HT_.out (by kernel_rfl)) ?_
        refine ox 21 41 4194303 (any_of HT_.out (by kernel_rfl)) ?_
        refine ox 22 41 8388607 (any_of HT_.out (by kernel_rfl)) ?_
        refine px 23 41 16777215 (any_of HT_.out (by kernel_rfl)) ?_
        refine px 24 41 33554431 (any_of HT_.out (by kernel_rfl)) ?_
        refine ox 25 41 67108863 (any_of HT_.out (by kernel_rfl)) ?_
        refine ox 26 41 134217727 (any_of HT_.out (by kernel_rfl)) ?_
        refine ox 27 41 268435455 (any_of HT_.out (by kernel_rfl)) ?_
        refine ox 28 41 536870911 (any_of HT_.out (by kernel_rfl)) ?_
        refine ox 29 41 1073741823 (any_of HT_.out (by kernel_rfl)) ?_
        refine ox 30 41 2147483647 (any_of HT_.out (by kernel_rfl)) ?_
        refine ox 31 41 4294967295 (any_of HT_.out (by kernel_rfl)) ?_
        refine ox 32 41 8589934591 (any_of HT_.out (by kernel_rfl)) ?_
        refine ox 33 41 17179869183 (any_of HT_.out (by kernel_rfl)) ?_
        refine ox 34 41 34359738367 (any_of HT_.out (by kernel_rfl)) ?_
        refine ox 35 41 68719476735 (any_of HT_.out (by kernel_rfl)) ?_
        refine ox 36 41 137438953471 (any_of HT_.out (by kernel_rfl)) ?_
        refine ox 37 41 274877906943 (any_of HT_.out (by kernel_rfl)) ?_
        refine ox 38 41 549755813887 (any_of HT_.out (by kernel_rfl)) ?_
        refine ox 39 41 1099511627775 (any_of HT_.out (by kernel_rfl)) ?_
        refine px 40 41 2199023255551 (any_of HT_.out (by kernel_rfl)) ?_
        refine done_ (done_of HT_.out (by kernel_rfl)) ?_
        try go_wp2
        go_meet
        case rel => exact ⟨_, (true), (by first | rfl | (simp; done) | (simp [*]; done)), H', ⟨by have := HK1.out; first | omega | exact Nat.le_refl _⟩, ⟨by (with_reducible repeat (first | refine xq ?_ _ | refine xr ?_ | refine xo ?_ _)); exact BK277.out⟩, ⟨by (with_reducible repeat (first | refine xq ?_ _ | refine xr ?_ | refine xo ?_ _)); exact BK279.out⟩, ⟨by repeat (first | (with_reducible first | exact HB.out | apply xa | apply xn | apply xd | refine xt ?_ GE277.out | refine xt ?_ GE279.out) | exact HB.out)⟩⟩
      case rest =>
       clear HC7
       try clear c1
       try clear c2
       try clear p2
       try clear c8
       try clear c12
       try clear c13
       try clear c13b0
       try clear c13b1
       try clear c27
       obtain ⟨kq, x53_6, rfl, HA, HJ6, BK277, BK279, HB⟩ := hcut
       cases kq with
       | zero => exact absurd HA.out (by simp [spec_GoodTable.j1])
       | succ kj6 =>
        have H := HA.out
        clear HA
        simp only [spec_GoodTable.j1] at H
        by_cases c41 : x53_6 = true
        ·subst c41
         have H1 : (some false) = some r := by first | (with_reducible rfl) | (rw [if_pos rfl] at H; exact H)
         clear H
         have H := H1
         clear H1
         obtain rfl := Option.some.inj H
         go_wp2
         go_ret
         exact ⟨by first | rfl | (simp [errW_none, errW_some] <;> rfl) | (simp [*, errW_none, errW_some] <;> rfl), by repeat (first | (with_reducible first | exact HB.out | apply xa | apply xn | apply xd | refine xt ?_ GE277.out | refine xt ?_ GE279.out) | exact HB.out)⟩
        ·replace c41 := Bool.eq_false_iff.mpr c41
         subst c41
         have H1 : (spec_GoodTable.l0 kj6 l0_1 (l0_1.length : Int) (wrap64 (x8_1 + 1)) a0_0 l0_1) = some r := by first | (with_reducible rfl) | (rw [if_neg (show ¬ (false = true) by decide)] at H; exact H)
         clear H
         have H := H1
         clear H1
         have H' := xm H
         clear H
         go_wp2
         go_roundg kj6
         case measure => have := HK1.out; have := HJ6.out; omega
         case rel => exact ⟨(wrap64 (x8_1 + 1)), (by first | rfl | (simp; done) | (simp [*]; done)), H', ⟨by have := HK1.out; have := HJ6.out; omega⟩, ⟨by (with_reducible repeat (first | refine xq ?_ _ | refine xr ?_ | refine xo ?_ _)); exact BK277.out⟩, ⟨by repeat (first | (with_reducible first | exact HB.out | apply xa | apply xn | apply xd | refine xt ?_ GE277.out | refine xt ?_ GE279.out) | exact HB.out)⟩⟩
     ·rw [if_neg c6] at H
      exact absurd H (by simp)
    ·rw [if_neg c5] at H
     exact absurd H (by simp)
   ·rw [if_neg c4] at H
    have c4b0 : decide (x8_1 < (l0_1.length : Int)) = false := decide_eq_false c4
    clear c4
    replace H := Option.bind_eq_some_iff.mp H
    obtain ⟨t284, A420, H⟩ := H
    replace H : (if t284 = true then (some (decide ((l0_1.length : Int) ≤ 60))) else (some false)) = some r := H
    have A42 := xm A420
    clear A420
    by_cases c43 : t284 = true
    ·subst c43
     have H1 : (some (decide ((l0_1.length : Int) ≤ 60))) = some r := by first | (with_reducible rfl) | (rw [if_pos rfl] at H; exact H)
     clear H
     have H := H1
     clear H1
     obtain rfl := Option.some.inj H
     have hcz44_0 : wr.cell? ⟨gb277, 0, none⟩ = some (.int .i64 a0_0) := (xc BK277.out 0).trans rfl
     have hcz44_1 : wr.cell? ⟨gb277, 1, none⟩ = some (.slice A0_1 l0_1.length c0_1) := (xc BK277.out 1).trans rfl
     have hfz44_0 := xf BK277.out 0
     have hfz44_1 := xf BK277.out 1
     go_wp2_with (first | ((with_reducible refine gate_callee (f := 104) rfl ?_); refine goesL_ (some 57) rfl rfl Try.func104 (by kernel_rfl) rfl #[.int .i64 a0_0, .int .i64 0, .int .i64 6] rfl (by (try simp only [List.map_toArray, List.map_cons, List.map_nil]); first | done | rfl | (simp only [List.length_drop, List.length_take]; rfl)) ?_; (with_reducible refine (spec_l1In.calls a0_0 0 6 true _ A42.out).mono ?_); rintro e w' ⟨rfl, ⟨nd, rfl⟩⟩; refine ⟨_, rfl, ?_⟩))
     go_ret
     exact ⟨by first | rfl | (simp [errW_none, errW_some] <;> rfl) | (simp [*, errW_none, errW_some] <;> rfl), by repeat (first | (with_reducible first | exact HB.out | apply xa | apply xn | apply xd | refine xt ?_ GE277.out) | exact HB.out)⟩
    ·replace c43 := Bool.eq_false_iff.mpr c43
     subst c43
     have H1 : (some false) = some r := by first | (with_reducible rfl) | (rw [if_neg (show ¬ (false = true) by decide)] at H; exact H)
     clear H
     have H := H1
     clear H1
     obtain rfl := Option.some.inj H
     have hcz45_0 : wr.cell? ⟨gb277, 0, none⟩ = some (.int .i64 a0_0) := (xc BK277.out 0).trans rfl
     have hcz45_1 : wr.cell? ⟨gb277, 1, none⟩ = some (.slice A0_1 l0_1.length c0_1) := (xc BK277.out 1).trans rfl
     have hfz45_0 := xf BK277.out 0
     have hfz45_1 := xf BK277.out 1
     go_wp2_with (first | ((with_reducible refine gate_callee (f := 104) rfl ?_); refine goesL_ (some 57) rfl rfl Try.func104 (by kernel_rfl) rfl #[.int .i64 a0_0, .int .i64 0, .int .i64 6] rfl (by (try simp only [List.map_toArray, List.map_cons, List.map_nil]); first | done | rfl | (simp only [List.length_drop, List.length_take]; rfl)) ?_; (with_reducible refine (spec_l1In.calls a0_0 0 6 false _ A42.out).mono ?_); rintro e w' ⟨rfl, ⟨nd, rfl⟩⟩; refine ⟨_, rfl, ?_⟩))
     go_ret
     exact ⟨by first | rfl | (simp [errW_none, errW_some] <;> rfl) | (simp [*, errW_none, errW_some] <;> rfl), by repeat (first | (with_reducible first | exact HB.out | apply xa | apply xn | apply xd | refine xt ?_ GE277.out) | exact HB.out)⟩

end Go.Proofs.Ytcbikaoackbbjaa.G
