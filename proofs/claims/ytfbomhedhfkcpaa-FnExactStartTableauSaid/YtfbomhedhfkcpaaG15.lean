/- Written by a program of this claim's own, out of the translation: functions of the program as plain functions, and that the calls answer as these. No conditions. -/
import Derived.Test.YtfbomhedhfkcpaaG0
import Derived.Test.YtfbomhedhfkcpaaG7
namespace Go.Proofs.Ytfbomhedhfkcpaa.G
open Go.RowKit Go.Proofs.Ytfbomhedhfkcpaa.X Go.Proofs.YtfbomhedhfkcpaaW.PrintWords Go.Proofs.YtfbomhedhfkcpaaW.PrintLast Go.Proofs.YtfbomhedhfkcpaaW.PrintMore
attribute [local go_sem] max2_int min2_int max_two min_two max_three min_three max_four min_four   -- for this text's walks alone
set_option linter.unusedVariables false
set_option linter.unusedSimpArgs false

/-! ### spec_l9Start: function 66 -/
mutual
def spec_l9Start.l0 : Nat → Int → List (List Int) → Int → Int → Int → List (S99) → Option (Int × (List (S99)))
 | 0, _, _, _, _, _, _ => none
 | k + 1, x1, x12, x13, x14, x239000, x239001 => if x14 < x13 then (if 0 ≤ x14 then (if x14 < (x12.length : Int) then (spec_l9Start.l1 k x1 x14 (rd_L1 x12 x14) 0 x12 x13 x14 x239000 x239001 ([] : List Int)) else (none)) else (none)) else (some (x239000, x239001))
def spec_l9Start.l1 : Nat → Int → Int → List Int → Int → List (List Int) → Int → Int → Int → List (S99) → List Int → Option (Int × (List (S99)))
 | 0, _, _, _, _, _, _, _, _, _, _ => none
 | k + 1, x1, x6, x7, x9, x12, x13, x14, x239000, x239001, x241000 => if x9 < x1 then ((spec_l1Has.f k x7 x9).bind fun t241 => (if t241 = true then (if x241000.length < 17592186044416 then (spec_l9Start.l1 k x1 x6 x7 (wrap64 (x9 + 1)) x12 x13 x14 x239000 x239001 (x241000 ++ [0])) else (none)) else (if x241000.length < 17592186044416 then (spec_l9Start.l1 k x1 x6 x7 (wrap64 (x9 + 1)) x12 x13 x14 x239000 x239001 (x241000 ++ [wrap64 ((wrap64 ((wrap64 (x6 * 6)) + x9)) + 1)])) else (none)))) else (if x239001.length < 5864062014805 then (spec_l9Start.l0 k x1 x12 x13 (wrap64 (x14 + 1)) x239000 (x239001 ++ [(⟨x241000⟩ : S99)])) else (none))
end
def spec_l9Start.f (k : Nat) (l0 : List (List Int)) (a1 : Int) : Option (Int × (List (S99))) := spec_l9Start.l0 k a1 l0 (l0.length : Int) 0 a1 ([] : List (S99))
theorem spec_l9Start.mono_l : ∀ k, (∀ y0 y1 y2 y3 y4 y5, LeO (spec_l9Start.l0 k y0 y1 y2 y3 y4 y5) (spec_l9Start.l0 (k + 1) y0 y1 y2 y3 y4 y5)) ∧ (∀ y0 y1 y2 y3 y4 y5 y6 y7 y8 y9, LeO (spec_l9Start.l1 k y0 y1 y2 y3 y4 y5 y6 y7 y8 y9) (spec_l9Start.l1 (k + 1) y0 y1 y2 y3 y4 y5 y6 y7 y8 y9))
 | 0 => ⟨fun _ _ _ _ _ _ r h => by simp [spec_l9Start.l0] at h, fun _ _ _ _ _ _ _ _ _ _ r h => by simp [spec_l9Start.l1] at h⟩
 | k + 1 => by
  obtain ⟨ih0, ih1⟩ := spec_l9Start.mono_l k
  refine ⟨?_, ?_⟩
  ·intro y0 y1 y2 y3 y4 y5
   unfold spec_l9Start.l0
   repeat' first
   | (with_reducible exact ih0 _ _ _ _ _ _)
   | (with_reducible exact ih1 _ _ _ _ _ _ _ _ _ _)
   | (with_reducible exact spec_l1Has.mono _ _ _)
   | (with_reducible exact LeO.refl _)
   | (with_reducible exact LeO.none _)
   | (with_reducible refine LeO.ite ?_ ?_)
   | (with_reducible refine LeO.bind ?_ (fun _ => ?_))
   | exact ih0 _ _ _ _ _ _
   | exact ih1 _ _ _ _ _ _ _ _ _ _
   | exact spec_l1Has.mono _ _ _
   | exact LeO.none _
   | refine LeO.ite ?_ ?_
   | refine LeO.bind ?_ (fun _ => ?_)
  ·intro y0 y1 y2 y3 y4 y5 y6 y7 y8 y9
   unfold spec_l9Start.l1
   repeat' first
   | (with_reducible exact ih0 _ _ _ _ _ _)
   | (with_reducible exact ih1 _ _ _ _ _ _ _ _ _ _)
   | (with_reducible exact spec_l1Has.mono _ _ _)
   | (with_reducible exact LeO.refl _)
   | (with_reducible exact LeO.none _)
   | (with_reducible refine LeO.ite ?_ ?_)
   | (with_reducible refine LeO.bind ?_ (fun _ => ?_))
   | exact ih0 _ _ _ _ _ _
   | exact ih1 _ _ _ _ _ _ _ _ _ _
   | exact spec_l1Has.mono _ _ _
   | exact LeO.none _
   | refine LeO.ite ?_ ?_
   | refine LeO.bind ?_ (fun _ => ?_)
theorem spec_l9Start.mono : ∀ a0 a1 k, LeO (spec_l9Start.f k a0 a1) (spec_l9Start.f (k + 1) a0 a1) := by
 intro a0 a1 k
 obtain ⟨ih0, ih1⟩ := spec_l9Start.mono_l k
 unfold spec_l9Start.f
 repeat' first
   | (with_reducible exact ih0 _ _ _ _ _ _)
   | (with_reducible exact ih1 _ _ _ _ _ _ _ _ _ _)
   | (with_reducible exact spec_l1Has.mono _ _ _)
   | (with_reducible exact LeO.refl _)
   | (with_reducible exact LeO.none _)
   | (with_reducible refine LeO.ite ?_ ?_)
   | (with_reducible refine LeO.bind ?_ (fun _ => ?_))
   | exact ih0 _ _ _ _ _ _
   | exact ih1 _ _ _ _ _ _ _ _ _ _
   | exact spec_l1Has.mono _ _ _
   | exact LeO.none _
   | refine LeO.ite ?_ ?_
   | refine LeO.bind ?_ (fun _ => ?_)
set_option maxHeartbeats 8000000 in
set_option maxRecDepth 100000 in
theorem spec_l9Start.calls (k : Nat) (A0 : Option Addr) (c0 : Nat) (l0 : List (List Int)) (a1 : Int) (r1 : Int) (r2 : List (S99)) (w : World) (hr0 : Kd.C (Kd.slice 3 (Kd.int .i64)) w A0 l0.length l0) (hc0 : l0.length ≤ c0) (h : spec_l9Start.f k l0 a1 = some (r1, r2)) :
  Calls Try.prog 66 #[.slice A0 l0.length c0, .int .i64 a1] w fun e w' => ∃ v1_ : Value, e = .returned (.agg #[.int .i64 r1, v1_]) ∧ Kd.S k99 99 w' w.heap.size (fun _ => True) v1_ r2 ∧ Below w.heap.size w w' := by
 have hu44 := Try.underlying44
 have hu99 := Try.underlying99
 have HR0 := xm hr0
 have HC0 := xm hc0
 clear hr0 hc0
 have HB := xm (Below.refl w.heap.size w)
 have H : (spec_l9Start.l0 k a1 l0 (l0.length : Int) 0 a1 ([] : List (S99))) = some (r1, r2) := h
 clear h
 have H' := xm H
 clear H
 go_enter Try.func66, Try.ntmps66
 go_wp2_with (first | ((with_reducible refine gate_dst (N := 4) rfl ?_); refine box_event ?hg (N := 4) ?hd (cs := #[.int .i64 0, .slice none 0 0]) (t := 44) ?hr ?_; (case hd => rfl); (case hg => rfl); (case hr => first | (go_simp; done) | (go_simp; rfl)); intro gb237 hg w3 hbox hb; have n0_ := xm (below_step (by repeat (first | (with_reducible first | exact HB.out | apply xa | apply xn | apply xd) | exact HB.out)) hb); have n1_ := xm (hbox); have n2_ := xm ((by rw [hg]; exact (xz (by repeat (first | (with_reducible first | exact HB.out | apply xa | apply xn | apply xd) | exact HB.out))) : w.heap.size ≤ gb237)); have n3_ := xm ((by rw [hg]; exact (xz (by repeat (first | (with_reducible first | exact HB.out | apply xa | apply xn | apply xd) | exact HB.out))) : w.heap.size ≤ gb237)); clear HB; have HB := n0_; have BK237 := n1_; have GW237 := n2_; have GE237 := n3_; clear n0_ n1_ n2_ n3_; clear hb hbox hg) | ((with_reducible refine gate_dst (N := 5) rfl ?_); refine box_event ?hg (N := 5) ?hd (cs := #[.int .i64 0, .slice none 0 0]) (t := 44) ?hr ?_; (case hd => rfl); (case hg => rfl); (case hr => first | (go_simp; done) | (go_simp; rfl)); intro gb238 hg w4 hbox hb; have n0_ := xm (blk_below (g := gb237) (o := .cells #[.int .i64 0, .slice none 0 0] 44 (0, 0)) (by (with_reducible repeat (first | refine xq ?_ _ | refine xr ?_ | refine xo ?_ _)); exact BK237.out) hb); have n1_ := xm (below_step (by repeat (first | (with_reducible first | exact HB.out | apply xa | apply xn | apply xd | refine xt ?_ GE237.out) | exact HB.out)) hb); have n2_ := xm (hbox); have n3_ := xm ((by rw [hg]; exact (xz (by repeat (first | (with_reducible first | exact HB.out | apply xa | apply xn | apply xd | refine xt ?_ GE237.out) | exact HB.out))) : w.heap.size ≤ gb238)); have n4_ := xm ((by rw [hg]; exact (xz (by repeat (first | (with_reducible first | exact HB.out | apply xa | apply xn | apply xd | refine xt ?_ GE237.out) | exact HB.out))) : w.heap.size ≤ gb238)); have n5_ := xm ((by rw [hg]; exact Nat.ne_of_lt (blk_lt (g := gb237) (o := .cells #[.int .i64 0, .slice none 0 0] 44 (0, 0)) (by (with_reducible repeat (first | refine xq ?_ _ | refine xr ?_ | refine xo ?_ _)); exact BK237.out)) : gb237 ≠ gb238)); have n6_ := xm ((by rw [hg]; exact Nat.ne_of_gt (blk_lt (g := gb237) (o := .cells #[.int .i64 0, .slice none 0 0] 44 (0, 0)) (by (with_reducible repeat (first | refine xq ?_ _ | refine xr ?_ | refine xo ?_ _)); exact BK237.out)) : gb238 ≠ gb237)); clear BK237; clear HB; have BK237 := n0_; have HB := n1_; have BK238 := n2_; have GW238 := n3_; have GE238 := n4_; have NB237_238 := n5_; have NB238_237 := n6_; clear n0_ n1_ n2_ n3_ n4_ n5_ n6_; clear hb hbox hg; have hnb5 := NB238_237.out; have hnc5 := NB237_238.out; have hcz6_0 : w4.cell? ⟨gb238, 0, none⟩ = some (.int .i64 0) := (xc BK238.out 0).trans rfl; have hcz6_1 : w4.cell? ⟨gb238, 1, none⟩ = some (.slice none 0 0) := (xc BK238.out 1).trans rfl; have hfz6_0 := xf BK238.out 0; have hfz6_1 := xf BK238.out 1))
 go_loopg [14] k (fun kq v14 w' => ∃ (x14_1 : Int) (x239001_1 : List (S99)) (u239001 : Value), v14 = .int .i64 x14_1 ∧ Aside0 (spec_l9Start.l0 kq a1 l0 (l0.length : Int) x14_1 a1 x239001_1 = some (r1, r2)) ∧ Aside0 (kq ≤ k) ∧ Aside0 (Kd.S k99 99 w' w.heap.size (fun _ => True) u239001 x239001_1) ∧ Aside0 (w'.heap[gb237]? = some (.cells #[.int .i64 0, (.slice none 0 0)] 44 (0, 0))) ∧ Aside0 (w'.heap[gb238]? = some (.cells #[.int .i64 a1, u239001] 44 (0, 0))) ∧ Aside0 (Below w.heap.size w w'))
 case atStart => exact ⟨(0), (([] : List (S99))), (.slice none 0 0), (by first | rfl | (simp; done) | (simp [*]; done)), H', ⟨Nat.le_refl _⟩, ⟨by first | exact Kd.S_nil _ _ _ _ _ | exact Kd.N_nil _ _ _ _ _ | exact Kd.V_nil _ _ _ _ _ | exact Kd.Q_nil _ _ _ _ _ | exact Kd.R_nil _ _ _ _ _⟩, ⟨by (with_reducible repeat (first | refine xq ?_ _ | refine xr ?_ | refine xo ?_ _)); refine blk_far ?_ NB237_238.out _; (with_reducible repeat (first | refine xq ?_ _ | refine xr ?_ | refine xo ?_ _)); refine blk_far ?_ NB237_238.out _; (with_reducible repeat (first | refine xq ?_ _ | refine xr ?_ | refine xo ?_ _)); exact BK237.out⟩, ⟨by (with_reducible repeat (first | refine xq ?_ _ | refine xr ?_ | refine xo ?_ _)); refine blk_put (cs := #[.int .i64 a1, .slice none 0 0]) ?_ 1 _ rfl; (with_reducible repeat (first | refine xq ?_ _ | refine xr ?_ | refine xo ?_ _)); refine blk_put (cs := #[.int .i64 0, .slice none 0 0]) ?_ 0 _ rfl; (with_reducible repeat (first | refine xq ?_ _ | refine xr ?_ | refine xo ?_ _)); exact BK238.out⟩, ⟨by repeat (first | (with_reducible first | exact HB.out | apply xa | apply xn | apply xd | refine xt ?_ GE237.out | refine xt ?_ GE238.out) | exact HB.out)⟩⟩
 case round =>
  clear H'
  try clear p2
  try clear c5
  try clear c6
  try clear hcz6_0
  try clear hcz6_1
  try clear hfz6_0
  try clear hfz6_1
  obtain ⟨x14_1, x239001_1, u239001, rfl, HA, HK1, HO_239001, BK237, BK238, HB⟩ := hrel
  cases gk with
  | zero => exact absurd HA.out (by simp [spec_l9Start.l0])
  | succ k1 =>
   have H := HA.out
   clear HA
   simp only [spec_l9Start.l0] at H
   by_cases c7 : x14_1 < (l0.length : Int)
   ·rw [if_pos c7] at H
    have c7b0 : decide (x14_1 < (l0.length : Int)) = true := decide_eq_true c7
    clear c7
    by_cases c8 : 0 ≤ x14_1
    ·rw [if_pos c8] at H
     have c8b0 : decide (0 ≤ x14_1) = true := decide_eq_true c8
     clear c8
     by_cases c9 : x14_1 < (l0.length : Int)
     ·rw [if_pos c9] at H
      have c9b0 : decide (x14_1 < (l0.length : Int)) = true := decide_eq_true c9
      clear c9
      have H' := xm H
      clear H
      have p239 : 0 ≤ (x14_1 : Int) := of_decide_eq_true (by first | (with_reducible assumption) | assumption)
      have q239 : x14_1 < (l0.length : Int) := of_decide_eq_true (by first | (with_reducible assumption) | assumption)
      obtain ⟨ad239, A239_0, c239_0, e239, hx239_0, hl239_0, hi239_0⟩ := at_L1 HR0.out x14_1 p239 q239
      cases e239
      replace hx239_0 := (HB.out.cell (World.block_lt_of_cell? w _ hx239_0)).trans hx239_0
      have HR239_0 := xm hi239_0
      have HC239_0 := xm hl239_0
      clear hi239_0 hl239_0
      replace p239 := eq_true p239
      replace q239 := eq_true q239
      go_wp2_with (first | ((with_reducible refine gate_dst (N := 8) rfl ?_); refine box_event ?hg (N := 8) ?hd (cs := #[.slice none 0 0]) (t := 99) ?hr ?_; (case hd => rfl); (case hg => rfl); (case hr => first | (go_simp; done) | (go_simp; rfl)); intro gb240 hg w10 hbox hb; have n0_ := xm (Kd.S_below (Kd.S_elderB (by (with_reducible repeat (first | apply Kd.S_alloc | apply Kd.S_drewN | apply Kd.S_drew)); exact HO_239001.out) gb240 (Nat.le_of_eq hg.symm)) hb); have n1_ := xm (blk_below (g := gb237) (o := .cells #[.int .i64 0, .slice none 0 0] 44 (0, 0)) (by (with_reducible repeat (first | refine xq ?_ _ | refine xr ?_ | refine xo ?_ _)); exact BK237.out) hb); have n2_ := xm (blk_below (g := gb238) (o := .cells #[.int .i64 a1, u239001] 44 (0, 0)) (by (with_reducible repeat (first | refine xq ?_ _ | refine xr ?_ | refine xo ?_ _)); exact BK238.out) hb); have n3_ := xm (below_step (by repeat (first | (with_reducible first | exact HB.out | apply xa | apply xn | apply xd | refine xt ?_ GE237.out | refine xt ?_ GE238.out) | exact HB.out)) hb); have n4_ := xm (hbox); have n5_ := xm ((by rw [hg]; exact (xz (by repeat (first | (with_reducible first | exact HB.out | apply xa | apply xn | apply xd | refine xt ?_ GE237.out | refine xt ?_ GE238.out) | exact HB.out))) : w.heap.size ≤ gb240)); have n6_ := xm ((by rw [hg]; exact (xz (by repeat (first | (with_reducible first | exact HB.out | apply xa | apply xn | apply xd | refine xt ?_ GE237.out | refine xt ?_ GE238.out) | exact HB.out))) : w.heap.size ≤ gb240)); have n7_ := xm ((by rw [hg]; exact Nat.ne_of_lt (blk_lt (g := gb237) (o := .cells #[.int .i64 0, .slice none 0 0] 44 (0, 0)) (by (with_reducible repeat (first | refine xq ?_ _ | refine xr ?_ | refine xo ?_ _)); exact BK237.out)) : gb237 ≠ gb240)); have n8_ := xm ((by rw [hg]; exact Nat.ne_of_gt (blk_lt (g := gb237) (o := .cells #[.int .i64 0, .slice none 0 0] 44 (0, 0)) (by (with_reducible repeat (first | refine xq ?_ _ | refine xr ?_ | refine xo ?_ _)); exact BK237.out)) : gb240 ≠ gb237)); have n9_ := xm ((by rw [hg]; exact Nat.ne_of_lt (blk_lt (g := gb238) (o := .cells #[.int .i64 a1, u239001] 44 (0, 0)) (by (with_reducible repeat (first | refine xq ?_ _ | refine xr ?_ | refine xo ?_ _)); exact BK238.out)) : gb238 ≠ gb240)); have n10_ := xm ((by rw [hg]; exact Nat.ne_of_gt (blk_lt (g := gb238) (o := .cells #[.int .i64 a1, u239001] 44 (0, 0)) (by (with_reducible repeat (first | refine xq ?_ _ | refine xr ?_ | refine xo ?_ _)); exact BK238.out)) : gb240 ≠ gb238)); clear HO_239001; clear BK237; clear BK238; clear HB; have HO_239001 := n0_; have BK237 := n1_; have BK238 := n2_; have HB := n3_; have BK240 := n4_; have GW240 := n5_; have GE240 := n6_; have NB237_240 := n7_; have NB240_237 := n8_; have NB238_240 := n9_; have NB240_238 := n10_; clear n0_ n1_ n2_ n3_ n4_ n5_ n6_ n7_ n8_ n9_ n10_; clear hb hbox hg; have hnb11 := NB240_237.out; have hnc11 := NB237_240.out; have hnb12 := NB240_238.out; have hnc12 := NB238_240.out; have hcz13_0 : w10.cell? ⟨gb240, 0, none⟩ = some (.slice none 0 0) := (xc BK240.out 0).trans rfl; have hfz13_0 := xf BK240.out 0))
      go_loopg [9] k1 (fun kq v9 w' => ∃ (x9_2 : Int) (x241000_2 : List Int) (u241000 : Value), v9 = .int .i64 x9_2 ∧ Aside0 (spec_l9Start.l1 kq a1 x14_1 (rd_L1 l0 x14_1) x9_2 l0 (l0.length : Int) x14_1 a1 x239001_1 x241000_2 = some (r1, r2)) ∧ Aside0 (kq ≤ k1) ∧ Aside0 (Kd.S k99 99 w' w.heap.size (fun k_ => some k_ ≠ (u241000 : Value).ownBlock ∧ k_ ≠ gb240) u239001 x239001_1) ∧ Aside0 (Kd.R (Kd.int .i64) 3 w' w.heap.size (fun _ => True) u241000 x241000_2) ∧ Aside0 (w'.heap[gb237]? = some (.cells #[.int .i64 0, (.slice none 0 0)] 44 (0, 0))) ∧ Aside0 (w'.heap[gb238]? = some (.cells #[.int .i64 a1, u239001] 44 (0, 0))) ∧ Aside0 (w'.heap[gb240]? = some (.cells #[u241000] 99 (0, 0))) ∧ Aside0 (Below w.heap.size w w'))
      case atStart => exact ⟨(0), (([] : List Int)), (.slice none 0 0), (by first | rfl | (simp; done) | (simp [*]; done)), H', ⟨Nat.le_refl _⟩, ⟨by (with_reducible repeat (first | apply Kd.S_alloc | apply Kd.S_drewN | apply Kd.S_drew)); exact Kd.S_mono (Kd.S_far (p := ⟨gb240, 0, none⟩) (Kd.S_mono HO_239001.out (fun k_ hk => (⟨hk, hk.2⟩ : _ ∧ k_ ≠ gb240))) (fun _ hk => hk.2) (.slice none 0 0)) (fun _ hk => ⟨(by simp [Value.ownBlock]), hk.1.2⟩)⟩, ⟨by first | exact Kd.R_nil _ _ _ _ _ | exact Kd.N_nil _ _ _ _ _ | exact Kd.V_nil _ _ _ _ _ | exact Kd.Q_nil _ _ _ _ _ | exact Kd.S_nil _ _ _ _ _⟩, ⟨by (with_reducible repeat (first | refine xq ?_ _ | refine xr ?_ | refine xo ?_ _)); refine blk_far ?_ NB237_240.out _; (with_reducible repeat (first | refine xq ?_ _ | refine xr ?_ | refine xo ?_ _)); exact BK237.out⟩, ⟨by (with_reducible repeat (first | refine xq ?_ _ | refine xr ?_ | refine xo ?_ _)); refine blk_far ?_ NB238_240.out _; (with_reducible repeat (first | refine xq ?_ _ | refine xr ?_ | refine xo ?_ _)); exact BK238.out⟩, ⟨by (with_reducible repeat (first | refine xq ?_ _ | refine xr ?_ | refine xo ?_ _)); refine blk_put (cs := #[.slice none 0 0]) ?_ 0 _ rfl; (with_reducible repeat (first | refine xq ?_ _ | refine xr ?_ | refine xo ?_ _)); exact BK240.out⟩, ⟨by repeat (first | (with_reducible first | exact HB.out | apply xa | apply xn | apply xd | refine xt ?_ GE237.out | refine xt ?_ GE238.out | refine xt ?_ GE240.out) | exact HB.out)⟩⟩
      case round =>
       clear H'
       try clear c1
       try clear c2
       try clear p2
       try clear q2
       try clear hx2
       try clear c5
       try clear c6
       try clear c7
       try clear c7b0
       try clear c8
       try clear c8b0
       try clear c9
       try clear c9b0
       try clear c11
       try clear c12
       try clear hcz13_0
       try clear hcz6_0
       try clear hcz6_1
       try clear hfz13_0
       try clear hfz6_0
       try clear hfz6_1
       try clear hx239_0
       try clear p2
       try clear p239
       try clear q239
       obtain ⟨x9_2, x241000_2, u241000, rfl, HA, HK2, HO_239001, HO_241000, BK237, BK238, BK240, HB⟩ := hrel
       cases gk with
       | zero => exact absurd HA.out (by simp [spec_l9Start.l1])
       | succ k2 =>
        have H := HA.out
        clear HA
        simp only [spec_l9Start.l1] at H
        by_cases c14 : x9_2 < a1
        ·rw [if_pos c14] at H
         have c14b0 : decide (x9_2 < a1) = true := decide_eq_true c14
         clear c14
         replace H := Option.bind_eq_some_iff.mp H
         obtain ⟨t241, A150, H⟩ := H
         replace H : (if t241 = true then (if x241000_2.length < 17592186044416 then (spec_l9Start.l1 k2 a1 x14_1 (rd_L1 l0 x14_1) (wrap64 (x9_2 + 1)) l0 (l0.length : Int) x14_1 a1 x239001_1 (x241000_2 ++ [0])) else (none)) else (if x241000_2.length < 17592186044416 then (spec_l9Start.l1 k2 a1 x14_1 (rd_L1 l0 x14_1) (wrap64 (x9_2 + 1)) l0 (l0.length : Int) x14_1 a1 x239001_1 (x241000_2 ++ [wrap64 ((wrap64 ((wrap64 (x14_1 * 6)) + x9_2)) + 1)])) else (none))) = some (r1, r2) := H
         have A15 := xm A150
         clear A150
         by_cases c16 : t241 = true
         ·subst c16
          have H1 : (if x241000_2.length < 17592186044416 then (spec_l9Start.l1 k2 a1 x14_1 (rd_L1 l0 x14_1) (wrap64 (x9_2 + 1)) l0 (l0.length : Int) x14_1 a1 x239001_1 (x241000_2 ++ [0])) else (none)) = some (r1, r2) := by first | (with_reducible rfl) | (rw [if_pos rfl] at H; exact H)
          clear H
          have H := H1
          clear H1
          by_cases c17 : x241000_2.length < 17592186044416
          ·rw [if_pos c17] at H
           have LMc17 := xm c17
           clear c17
           obtain ⟨y242, hy242⟩ : ∃ y_ : List Int, y_ = (x241000_2 ++ [0]) := ⟨_, rfl⟩
           replace H : (spec_l9Start.l1 k2 a1 x14_1 (rd_L1 l0 x14_1) (wrap64 (x9_2 + 1)) l0 (l0.length : Int) x14_1 a1 x239001_1 y242) = some (r1, r2) := by first | (rw [hy242]; with_reducible exact H) | (have H2_ := (Option.bind_some _ _).symm.trans H; rw [hy242]; with_reducible exact H2_) | (have H2_ := (Option.bind_some _ _).symm.trans H; with_reducible exact H2_) | with_reducible exact H | (rw [hy242]; exact H) | exact H
           have Ny242 := xm hy242
           clear hy242
           have H' := xm H
           clear H
           go_wp2_with (first | ((with_reducible refine gate_callee (f := 113) rfl ?_); refine goesL_ (some 27) rfl rfl Try.func113 (by kernel_rfl) rfl #[.slice A239_0 (rd_L1 l0 x14_1).length c239_0, .int .i64 x9_2] rfl (by (try simp only [List.map_toArray, List.map_cons, List.map_nil]); first | done | rfl | (simp only [List.length_drop, List.length_take]; rfl)) ?_; (with_reducible refine (spec_l1Has.calls k2 _ _ (rd_L1 l0 x14_1) x9_2 true _ ?side1 ?side2 A15.out).mono ?_); (case side1 => repeat (first | exact (Kd.C_below HR239_0.out HB.out) | (with_reducible refine Kd.C_alloc ?_ _) | (with_reducible refine Kd.C_drewN ?_ _) | (with_reducible refine Kd.C_drew ?_))); (case side2 => exact HC239_0.out); rintro e w' ⟨rfl, ⟨nd, rfl⟩⟩; refine ⟨_, rfl, ?_⟩; (first | (rw [drewN_self wr]; generalize hq_ : World.drewN wr _ = wr; have n0_ : Aside0 (Kd.S k99 99 wr w.heap.size (fun k_ => some k_ ≠ (u241000 : Value).ownBlock ∧ k_ ≠ gb240) u239001 x239001_1) := ⟨by rw [← hq_]; exact (by (with_reducible repeat (first | apply Kd.S_alloc | apply Kd.S_drewN | apply Kd.S_drew)); exact HO_239001.out)⟩; have n1_ : Aside0 (Kd.R (Kd.int .i64) 3 wr w.heap.size (fun _ => True) u241000 x241000_2) := ⟨by rw [← hq_]; exact (by (with_reducible repeat (first | apply Kd.R_alloc | apply Kd.R_drewN | apply Kd.R_drew)); exact HO_241000.out)⟩; have n2_ : Aside0 (wr.heap[gb237]? = some (.cells #[.int .i64 0, .slice none 0 0] 44 (0, 0))) := ⟨by rw [← hq_]; exact (by (with_reducible repeat (first | refine xq ?_ _ | refine xr ?_ | refine xo ?_ _)); exact BK237.out)⟩; have n3_ : Aside0 (wr.heap[gb238]? = some (.cells #[.int .i64 a1, u239001] 44 (0, 0))) := ⟨by rw [← hq_]; exact (by (with_reducible repeat (first | refine xq ?_ _ | refine xr ?_ | refine xo ?_ _)); exact BK238.out)⟩; have n4_ : Aside0 (wr.heap[gb240]? = some (.cells #[u241000] 99 (0, 0))) := ⟨by rw [← hq_]; exact (by (with_reducible repeat (first | refine xq ?_ _ | refine xr ?_ | refine xo ?_ _)); exact BK240.out)⟩; have n5_ : Aside0 (Below w.heap.size w wr) := ⟨by rw [← hq_]; exact (by repeat (first | (with_reducible first | exact HB.out | apply xa | apply xn | apply xd | refine xt ?_ GE237.out | refine xt ?_ GE238.out | refine xt ?_ GE240.out) | exact HB.out))⟩; clear HO_239001 HO_241000 BK237 BK238 BK240 HB hq_; have HO_239001 := n0_; have HO_241000 := n1_; have BK237 := n2_; have BK238 := n3_; have BK240 := n4_; have HB := n5_; clear n0_ n1_ n2_ n3_ n4_ n5_) | (have n0_ : Aside0 (Kd.S k99 99 wr w.heap.size (fun k_ => some k_ ≠ (u241000 : Value).ownBlock ∧ k_ ≠ gb240) u239001 x239001_1) := ⟨(by (with_reducible repeat (first | apply Kd.S_alloc | apply Kd.S_drewN | apply Kd.S_drew)); exact HO_239001.out)⟩; have n1_ : Aside0 (Kd.R (Kd.int .i64) 3 wr w.heap.size (fun _ => True) u241000 x241000_2) := ⟨(by (with_reducible repeat (first | apply Kd.R_alloc | apply Kd.R_drewN | apply Kd.R_drew)); exact HO_241000.out)⟩; have n2_ : Aside0 (wr.heap[gb237]? = some (.cells #[.int .i64 0, .slice none 0 0] 44 (0, 0))) := ⟨(by (with_reducible repeat (first | refine xq ?_ _ | refine xr ?_ | refine xo ?_ _)); exact BK237.out)⟩; have n3_ : Aside0 (wr.heap[gb238]? = some (.cells #[.int .i64 a1, u239001] 44 (0, 0))) := ⟨(by (with_reducible repeat (first | refine xq ?_ _ | refine xr ?_ | refine xo ?_ _)); exact BK238.out)⟩; have n4_ : Aside0 (wr.heap[gb240]? = some (.cells #[u241000] 99 (0, 0))) := ⟨(by (with_reducible repeat (first | refine xq ?_ _ | refine xr ?_ | refine xo ?_ _)); exact BK240.out)⟩; have n5_ : Aside0 (Below w.heap.size w wr) := ⟨(by repeat (first | (with_reducible first | exact HB.out | apply xa | apply xn | apply xd | refine xt ?_ GE237.out | refine xt ?_ GE238.out | refine xt ?_ GE240.out) | exact HB.out))⟩; clear HO_239001 HO_241000 BK237 BK238 BK240 HB; have HO_239001 := n0_; have HO_241000 := n1_; have BK237 := n2_; have BK238 := n3_; have BK240 := n4_; have HB := n5_; clear n0_ n1_ n2_ n3_ n4_ n5_)); have hnb18 := NB240_237.out; have hnc18 := NB237_240.out; have hnb19 := NB240_238.out; have hnc19 := NB238_240.out; have hcz20_0 : wr.cell? ⟨gb240, 0, none⟩ = some (u241000) := (xc BK240.out 0).trans rfl; have hfz20_0 := xf BK240.out 0) | ((with_reducible refine gate_builtin (b := .append) (xs := #[.tmp 29, .tmp 30]) rfl ?_); at_builtin; refine Kd.R_append (Kd.int .i64) (w0 := w) w.heap.size rfl (.tmp 29) (.tmp 30) 48 3 (.int .i64 0) 8 rfl Try.underlying48 info3 rfl (by decide) (by omega) u241000 x241000_2 0 [.int .i64 0] (fun _ => True) (fun _ => False) rfl rfl ?aP (fun _ hk => hk.elim) ?aF ?aO ?aB ?aS ?aL ?_; (case aP => exact rfl); (case aB => exact (by repeat (first | (with_reducible first | exact HB.out | apply xa | apply xn | apply xd | refine xt ?_ GE237.out | refine xt ?_ GE238.out | refine xt ?_ GE240.out) | exact HB.out))); (case aF => exact (fun _ _ => trivial)); (case aO => exact (by (with_reducible repeat (first | apply Kd.R_alloc | apply Kd.R_drewN | apply Kd.R_drew)); exact HO_241000.out)); (case aS => exact (xz (by repeat (first | (with_reducible first | exact HB.out | apply xa | apply xn | apply xd | refine xt ?_ GE237.out | refine xt ?_ GE238.out | refine xt ?_ GE240.out) | exact HB.out)))); (case aL => have := LMc17.out; omega); intro v243 w21 ho hb hg hat; rw [← Ny242.out] at ho; have n0_ := xm (Kd.S_after (ok := (fun k_ => k_ ≠ gb240)) (by (with_reducible repeat (first | apply Kd.S_alloc | apply Kd.S_drewN | apply Kd.S_drew)); exact Kd.S_mono HO_239001.out (fun _ hk => ⟨hk.2, hk.1⟩)) hg hat); have n1_ := xm (blk_grown (g := gb237) (o := .cells #[.int .i64 0, .slice none 0 0] 44 (0, 0)) (by (with_reducible repeat (first | refine xq ?_ _ | refine xr ?_ | refine xo ?_ _)); exact BK237.out) hg (Kd.R_ne HO_241000.out BK237.out (by decide))); have n2_ := xm (blk_grown (g := gb238) (o := .cells #[.int .i64 a1, u239001] 44 (0, 0)) (by (with_reducible repeat (first | refine xq ?_ _ | refine xr ?_ | refine xo ?_ _)); exact BK238.out) hg (Kd.R_ne HO_241000.out BK238.out (by decide))); have n3_ := xm (blk_grown (g := gb240) (o := .cells #[u241000] 99 (0, 0)) (by (with_reducible repeat (first | refine xq ?_ _ | refine xr ?_ | refine xo ?_ _)); exact BK240.out) hg (Kd.R_ne HO_241000.out BK240.out (by decide))); have n4_ := xm (hb); have n5_ := xm (ho); clear HO_239001; clear BK237; clear BK238; clear BK240; clear HB; clear HO_241000; have HO_239001 := n0_; have BK237 := n1_; have BK238 := n2_; have BK240 := n3_; have HB := n4_; have HO244 := n5_; clear n0_ n1_ n2_ n3_ n4_ n5_; clear ho hb hg hat; obtain ⟨Ao22, co22, eo22⟩ := Kd.R_slice HO244.out; subst eo22; have hcz23_0 : w21.cell? ⟨gb240, 0, none⟩ = some (u241000) := (xc BK240.out 0).trans rfl; have hfz23_0 := xf BK240.out 0))
           go_roundg k2
           case measure => have := HK1.out; have := HK2.out; omega
           case rel => exact ⟨(wrap64 (x9_2 + 1)), (y242), (.slice Ao22 y242.length co22), (by first | rfl | (simp; done) | (simp [*]; done)), H', ⟨by have := HK1.out; have := HK2.out; omega⟩, ⟨by (with_reducible repeat (first | apply Kd.S_alloc | apply Kd.S_drewN | apply Kd.S_drew)); exact Kd.S_mono (Kd.S_far (p := ⟨gb240, 0, none⟩) (Kd.S_mono HO_239001.out (fun k_ hk => (⟨hk, hk.1⟩ : _ ∧ k_ ≠ gb240))) (fun _ hk => hk.2) (.slice Ao22 y242.length co22)) (fun _ hk => ⟨hk.1.2, hk.1.1⟩)⟩, ⟨by (with_reducible repeat (first | apply Kd.R_alloc | apply Kd.R_drewN | apply Kd.R_drew)); exact Kd.R_mono (Kd.R_far (p := ⟨gb240, 0, none⟩) (Kd.R_types HO244.out BK240.out (by decide)) (fun _ hk => hk.2) (.slice Ao22 y242.length co22)) (fun _ hk => trivial)⟩, ⟨by (with_reducible repeat (first | refine xq ?_ _ | refine xr ?_ | refine xo ?_ _)); refine blk_far ?_ NB237_240.out _; (with_reducible repeat (first | refine xq ?_ _ | refine xr ?_ | refine xo ?_ _)); exact BK237.out⟩, ⟨by (with_reducible repeat (first | refine xq ?_ _ | refine xr ?_ | refine xo ?_ _)); refine blk_far ?_ NB238_240.out _; (with_reducible repeat (first | refine xq ?_ _ | refine xr ?_ | refine xo ?_ _)); exact BK238.out⟩, ⟨by (with_reducible repeat (first | refine xq ?_ _ | refine xr ?_ | refine xo ?_ _)); refine blk_put (cs := #[u241000]) ?_ 0 _ rfl; (with_reducible repeat (first | refine xq ?_ _ | refine xr ?_ | refine xo ?_ _)); exact BK240.out⟩, ⟨by repeat (first | (with_reducible first | exact HB.out | apply xa | apply xn | apply xd | refine xt ?_ GE237.out | refine xt ?_ GE238.out | refine xt ?_ GE240.out) | exact HB.out)⟩⟩
          ·rw [if_neg c17] at H
           exact absurd H (by simp)
         ·replace c16 := Bool.eq_false_iff.mpr c16
          subst c16
          have H1 : (if x241000_2.length < 17592186044416 then (spec_l9Start.l1 k2 a1 x14_1 (rd_L1 l0 x14_1) (wrap64 (x9_2 + 1)) l0 (l0.length : Int) x14_1 a1 x239001_1 (x241000_2 ++ [wrap64 ((wrap64 ((wrap64 (x14_1 * 6)) + x9_2)) + 1)])) else (none)) = some (r1, r2) := by first | (with_reducible rfl) | (rw [if_neg (show ¬ (false = true) by decide)] at H; exact H)
          clear H
          have H := H1
          clear H1
          by_cases c24 : x241000_2.length < 17592186044416
          ·rw [if_pos c24] at H
           have LMc24 := xm c24
           clear c24
           obtain ⟨y245, hy245⟩ : ∃ y_ : List Int, y_ = (x241000_2 ++ [wrap64 ((wrap64 ((wrap64 (x14_1 * 6)) + x9_2)) + 1)]) := ⟨_, rfl⟩
           replace H : (spec_l9Start.l1 k2 a1 x14_1 (rd_L1 l0 x14_1) (wrap64 (x9_2 + 1)) l0 (l0.length : Int) x14_1 a1 x239001_1 y245) = some (r1, r2) := by first | (rw [hy245]; with_reducible exact H) | (have H2_ := (Option.bind_some _ _).symm.trans H; rw [hy245]; with_reducible exact H2_) | (have H2_ := (Option.bind_some _ _).symm.trans H; with_reducible exact H2_) | with_reducible exact H | (rw [hy245]; exact H) | exact H
           have Ny245 := xm hy245
           clear hy245
           have H' := xm H
           clear H
           go_wp2_with (first | ((with_reducible refine gate_callee (f := 113) rfl ?_); refine goesL_ (some 27) rfl rfl Try.func113 (by kernel_rfl) rfl #[.slice A239_0 (rd_L1 l0 x14_1).length c239_0, .int .i64 x9_2] rfl (by (try simp only [List.map_toArray, List.map_cons, List.map_nil]); first | done | rfl | (simp only [List.length_drop, List.length_take]; rfl)) ?_; (with_reducible refine (spec_l1Has.calls k2 _ _ (rd_L1 l0 x14_1) x9_2 false _ ?side1 ?side2 A15.out).mono ?_); (case side1 => repeat (first | exact (Kd.C_below HR239_0.out HB.out) | (with_reducible refine Kd.C_alloc ?_ _) | (with_reducible refine Kd.C_drewN ?_ _) | (with_reducible refine Kd.C_drew ?_))); (case side2 => exact HC239_0.out); rintro e w' ⟨rfl, ⟨nd, rfl⟩⟩; refine ⟨_, rfl, ?_⟩; (first | (rw [drewN_self wr]; generalize hq_ : World.drewN wr _ = wr; have n0_ : Aside0 (Kd.S k99 99 wr w.heap.size (fun k_ => some k_ ≠ (u241000 : Value).ownBlock ∧ k_ ≠ gb240) u239001 x239001_1) := ⟨by rw [← hq_]; exact (by (with_reducible repeat (first | apply Kd.S_alloc | apply Kd.S_drewN | apply Kd.S_drew)); exact HO_239001.out)⟩; have n1_ : Aside0 (Kd.R (Kd.int .i64) 3 wr w.heap.size (fun _ => True) u241000 x241000_2) := ⟨by rw [← hq_]; exact (by (with_reducible repeat (first | apply Kd.R_alloc | apply Kd.R_drewN | apply Kd.R_drew)); exact HO_241000.out)⟩; have n2_ : Aside0 (wr.heap[gb237]? = some (.cells #[.int .i64 0, .slice none 0 0] 44 (0, 0))) := ⟨by rw [← hq_]; exact (by (with_reducible repeat (first | refine xq ?_ _ | refine xr ?_ | refine xo ?_ _)); exact BK237.out)⟩; have n3_ : Aside0 (wr.heap[gb238]? = some (.cells #[.int .i64 a1, u239001] 44 (0, 0))) := ⟨by rw [← hq_]; exact (by (with_reducible repeat (first | refine xq ?_ _ | refine xr ?_ | refine xo ?_ _)); exact BK238.out)⟩; have n4_ : Aside0 (wr.heap[gb240]? = some (.cells #[u241000] 99 (0, 0))) := ⟨by rw [← hq_]; exact (by (with_reducible repeat (first | refine xq ?_ _ | refine xr ?_ | refine xo ?_ _)); exact BK240.out)⟩; have n5_ : Aside0 (Below w.heap.size w wr) := ⟨by rw [← hq_]; exact (by repeat (first | (with_reducible first | exact HB.out | apply xa | apply xn | apply xd | refine xt ?_ GE237.out | refine xt ?_ GE238.out | refine xt ?_ GE240.out) | exact HB.out))⟩; clear HO_239001 HO_241000 BK237 BK238 BK240 HB hq_; have HO_239001 := n0_; have HO_241000 := n1_; have BK237 := n2_; have BK238 := n3_; have BK240 := n4_; have HB := n5_; clear n0_ n1_ n2_ n3_ n4_ n5_) | (have n0_ : Aside0 (Kd.S k99 99 wr w.heap.size (fun k_ => some k_ ≠ (u241000 : Value).ownBlock ∧ k_ ≠ gb240) u239001 x239001_1) := ⟨(by (with_reducible repeat (first | apply Kd.S_alloc | apply Kd.S_drewN | apply Kd.S_drew)); exact HO_239001.out)⟩; have n1_ : Aside0 (Kd.R (Kd.int .i64) 3 wr w.heap.size (fun _ => True) u241000 x241000_2) := ⟨(by (with_reducible repeat (first | apply Kd.R_alloc | apply Kd.R_drewN | apply Kd.R_drew)); exact HO_241000.out)⟩; have n2_ : Aside0 (wr.heap[gb237]? = some (.cells #[.int .i64 0, .slice none 0 0] 44 (0, 0))) := ⟨(by (with_reducible repeat (first | refine xq ?_ _ | refine xr ?_ | refine xo ?_ _)); exact BK237.out)⟩; have n3_ : Aside0 (wr.heap[gb238]? = some (.cells #[.int .i64 a1, u239001] 44 (0, 0))) := ⟨(by (with_reducible repeat (first | refine xq ?_ _ | refine xr ?_ | refine xo ?_ _)); exact BK238.out)⟩; have n4_ : Aside0 (wr.heap[gb240]? = some (.cells #[u241000] 99 (0, 0))) := ⟨(by (with_reducible repeat (first | refine xq ?_ _ | refine xr ?_ | refine xo ?_ _)); exact BK240.out)⟩; have n5_ : Aside0 (Below w.heap.size w wr) := ⟨(by repeat (first | (with_reducible first | exact HB.out | apply xa | apply xn | apply xd | refine xt ?_ GE237.out | refine xt ?_ GE238.out | refine xt ?_ GE240.out) | exact HB.out))⟩; clear HO_239001 HO_241000 BK237 BK238 BK240 HB; have HO_239001 := n0_; have HO_241000 := n1_; have BK237 := n2_; have BK238 := n3_; have BK240 := n4_; have HB := n5_; clear n0_ n1_ n2_ n3_ n4_ n5_)); have hnb25 := NB240_237.out; have hnc25 := NB237_240.out; have hnb26 := NB240_238.out; have hnc26 := NB238_240.out; have hcz27_0 : wr.cell? ⟨gb240, 0, none⟩ = some (u241000) := (xc BK240.out 0).trans rfl; have hfz27_0 := xf BK240.out 0) | ((with_reducible refine gate_builtin (b := .append) (xs := #[.tmp 34, .tmp 40]) rfl ?_); at_builtin; refine Kd.R_append (Kd.int .i64) (w0 := w) w.heap.size rfl (.tmp 34) (.tmp 40) 48 3 (.int .i64 0) 8 rfl Try.underlying48 info3 rfl (by decide) (by omega) u241000 x241000_2 (wrap64 ((wrap64 ((wrap64 (x14_1 * 6)) + x9_2)) + 1)) [.int .i64 (wrap64 ((wrap64 ((wrap64 (x14_1 * 6)) + x9_2)) + 1))] (fun _ => True) (fun _ => False) rfl rfl ?aP (fun _ hk => hk.elim) ?aF ?aO ?aB ?aS ?aL ?_; (case aP => exact rfl); (case aB => exact (by repeat (first | (with_reducible first | exact HB.out | apply xa | apply xn | apply xd | refine xt ?_ GE237.out | refine xt ?_ GE238.out | refine xt ?_ GE240.out) | exact HB.out))); (case aF => exact (fun _ _ => trivial)); (case aO => exact (by (with_reducible repeat (first | apply Kd.R_alloc | apply Kd.R_drewN | apply Kd.R_drew)); exact HO_241000.out)); (case aS => exact (xz (by repeat (first | (with_reducible first | exact HB.out | apply xa | apply xn | apply xd | refine xt ?_ GE237.out | refine xt ?_ GE238.out | refine xt ?_ GE240.out) | exact HB.out)))); (case aL => have := LMc24.out; omega); intro v246 w28 ho hb hg hat; rw [← Ny245.out] at ho; have n0_ := xm (Kd.S_after (ok := (fun k_ => k_ ≠ gb240)) (by (with_reducible repeat (first | apply Kd.S_alloc | apply Kd.S_drewN | apply Kd.S_drew)); exact Kd.S_mono HO_239001.out (fun _ hk => ⟨hk.2, hk.1⟩)) hg hat); have n1_ := xm (blk_grown (g := gb237) (o := .cells #[.int .i64 0, .slice none 0 0] 44 (0, 0)) (by (with_reducible repeat (first | refine xq ?_ _ | refine xr ?_ | refine xo ?_ _)); exact BK237.out) hg (Kd.R_ne HO_241000.out BK237.out (by decide))); have n2_ := xm (blk_grown (g := gb238) (o := .cells #[.int .i64 a1, u239001] 44 (0, 0)) (by (with_reducible repeat (first | refine xq ?_ _ | refine xr ?_ | refine xo ?_ _)); exact BK238.out) hg (Kd.R_ne HO_241000.out BK238.out (by decide))); have n3_ := xm (blk_grown (g := gb240) (o := .cells #[u241000] 99 (0, 0)) (by (with_reducible repeat (first | refine xq ?_ _ | refine xr ?_ | refine xo ?_ _)); exact BK240.out) hg (Kd.R_ne HO_241000.out BK240.out (by decide))); have n4_ := xm (hb); have n5_ := xm (ho); clear HO_239001; clear BK237; clear BK238; clear BK240; clear HB; clear HO_241000; have HO_239001 := n0_; have BK237 := n1_; have BK238 := n2_; have BK240 := n3_; have HB := n4_; have HO247 := n5_; clear n0_ n1_ n2_ n3_ n4_ n5_; clear ho hb hg hat; obtain ⟨Ao29, co29, eo29⟩ := Kd.R_slice HO247.out; subst eo29; have hcz30_0 : w28.cell? ⟨gb240, 0, none⟩ = some (u241000) := (xc BK240.out 0).trans rfl; have hfz30_0 := xf BK240.out 0))
           go_roundg k2
           case measure => have := HK1.out; have := HK2.out; omega
           case rel => exact ⟨(wrap64 (x9_2 + 1)), (y245), (.slice Ao29 y245.length co29), (by first | rfl | (simp; done) | (simp [*]; done)), H', ⟨by have := HK1.out; have := HK2.out; omega⟩, ⟨by (with_reducible repeat (first | apply Kd.S_alloc | apply Kd.S_drewN | apply Kd.S_drew)); exact Kd.S_mono (Kd.S_far (p := ⟨gb240, 0, none⟩) (Kd.S_mono HO_239001.out (fun k_ hk => (⟨hk, hk.1⟩ : _ ∧ k_ ≠ gb240))) (fun _ hk => hk.2) (.slice Ao29 y245.length co29)) (fun _ hk => ⟨hk.1.2, hk.1.1⟩)⟩, ⟨by (with_reducible repeat (first | apply Kd.R_alloc | apply Kd.R_drewN | apply Kd.R_drew)); exact Kd.R_mono (Kd.R_far (p := ⟨gb240, 0, none⟩) (Kd.R_types HO247.out BK240.out (by decide)) (fun _ hk => hk.2) (.slice Ao29 y245.length co29)) (fun _ hk => trivial)⟩, ⟨by (with_reducible repeat (first | refine xq ?_ _ | refine xr ?_ | refine xo ?_ _)); refine blk_far ?_ NB237_240.out _; (with_reducible repeat (first | refine xq ?_ _ | refine xr ?_ | refine xo ?_ _)); exact BK237.out⟩, ⟨by (with_reducible repeat (first | refine xq ?_ _ | refine xr ?_ | refine xo ?_ _)); refine blk_far ?_ NB238_240.out _; (with_reducible repeat (first | refine xq ?_ _ | refine xr ?_ | refine xo ?_ _)); exact BK238.out⟩, ⟨by (with_reducible repeat (first | refine xq ?_ _ | refine xr ?_ | refine xo ?_ _)); refine blk_put (cs := #[u241000]) ?_ 0 _ rfl; (with_reducible repeat (first | refine xq ?_ _ | refine xr ?_ | refine xo ?_ _)); exact BK240.out⟩, ⟨by repeat (first | (with_reducible first | exact HB.out | apply xa | apply xn | apply xd | refine xt ?_ GE237.out | refine xt ?_ GE238.out | refine xt ?_ GE240.out) | exact HB.out)⟩⟩
          ·rw [if_neg c24] at H
           exact absurd H (by simp)
        ·rw [if_neg c14] at H
         have c14b0 : decide (x9_2 < a1) = false := decide_eq_false c14
         clear c14
         by_cases c31 : x239001_1.length < 5864062014805
         ·rw [if_pos c31] at H
          have LMc31 := xm c31
          clear c31
          obtain ⟨y248, hy248⟩ : ∃ y_ : List (S99), y_ = (x239001_1 ++ [(⟨x241000_2⟩ : S99)]) := ⟨_, rfl⟩
          replace H : (spec_l9Start.l0 k2 a1 l0 (l0.length : Int) (wrap64 (x14_1 + 1)) a1 y248) = some (r1, r2) := by first | (rw [hy248]; with_reducible exact H) | (have H2_ := (Option.bind_some _ _).symm.trans H; rw [hy248]; with_reducible exact H2_) | (have H2_ := (Option.bind_some _ _).symm.trans H; with_reducible exact H2_) | with_reducible exact H | (rw [hy248]; exact H) | exact H
          have Ny248 := xm hy248
          clear hy248
          have H' := xm H
          clear H
          have hnb32 := NB238_237.out
          have hnc32 := NB237_238.out
          have hnb33 := NB238_240.out
          have hnc33 := NB240_238.out
          have hcz34_0 : wr.cell? ⟨gb238, 0, none⟩ = some (.int .i64 a1) := (xc BK238.out 0).trans rfl
          have hcz34_1 : wr.cell? ⟨gb238, 1, none⟩ = some (u239001) := (xc BK238.out 1).trans rfl
          have hfz34_0 := xf BK238.out 0
          have hfz34_1 := xf BK238.out 1
          have hnb35 := NB240_237.out
          have hnc35 := NB237_240.out
          have hcz36_0 : wr.cell? ⟨gb240, 0, none⟩ = some (u241000) := (xc BK240.out 0).trans rfl
          have hfz36_0 := xf BK240.out 0
          obtain ⟨Ao38, co38, eo38⟩ := Kd.R_slice HO_241000.out
          subst eo38
          go_wp2_with (first | ((with_reducible refine gate_builtin (b := .append) (xs := #[.tmp 44, .tmp 46]) rfl ?_); at_builtin; refine Kd.S_append k99 (w0 := w) w.heap.size rfl (.tmp 44) (.tmp 46) 42 99 (.agg #[(.slice none 0 0)]) 24 rfl Try.underlying42 info99 rfl (by decide) (by omega) u239001 x239001_1 (⟨x241000_2⟩ : S99) [.slice Ao38 x241000_2.length co38] (fun k_ => k_ ≠ gb240) (fun k_ => some k_ = (.slice Ao38 x241000_2.length co38 : Value).ownBlock) rfl rfl ?aP (fun k_ hk_ => ((Kd.R_mono (ok' := fun k_ => ((fun k_ => k_ ≠ gb240)) k_ ∧ some k_ ≠ (u239001 : Value).ownBlock) (Kd.R_types (Kd.R_apart' (HO_241000.out) (Kd.S_typed HO_239001.out) (by decide)) BK240.out (by decide)) (fun k_ hk => ⟨hk.2, hk.1.2⟩))).1 k_ hk_.symm) ?aF ?aO ?aB ?aS ?aL ?_; (case aP => exact k99_mkM _ _ _ (⟨x241000_2⟩ : S99) (Kd.R_mono (Kd.R_tight rfl (Kd.R_mono (ok' := fun k_ => ((fun k_ => k_ ≠ gb240)) k_ ∧ some k_ ≠ (u239001 : Value).ownBlock) (Kd.R_types (Kd.R_apart' (HO_241000.out) (Kd.S_typed HO_239001.out) (by decide)) BK240.out (by decide)) (fun k_ hk => ⟨hk.2, hk.1.2⟩))) (fun _ h_ => h_))); (case aB => exact (by repeat (first | (with_reducible first | exact HB.out | apply xa | apply xn | apply xd | refine xt ?_ GE237.out | refine xt ?_ GE238.out | refine xt ?_ GE240.out) | exact HB.out))); (case aF => exact (fun k_ hk => Kd.freshB (g := gb240) (o := .cells #[.slice Ao38 x241000_2.length co38] 99 (0, 0)) (by (with_reducible repeat (first | refine xq ?_ _ | refine xr ?_ | refine xo ?_ _)); exact BK240.out) k_ hk)); (case aO => exact (by (with_reducible repeat (first | apply Kd.S_alloc | apply Kd.S_drewN | apply Kd.S_drew)); exact Kd.S_mono HO_239001.out (fun k_ hk => ⟨hk.2, fun e_ => hk.1 e_⟩))); (case aS => exact (xz (by repeat (first | (with_reducible first | exact HB.out | apply xa | apply xn | apply xd | refine xt ?_ GE237.out | refine xt ?_ GE238.out | refine xt ?_ GE240.out) | exact HB.out)))); (case aL => have := LMc31.out; omega); intro v249 w37 ho hb hg hat; rw [← Ny248.out] at ho; have n0_ := xm (blk_grown (g := gb237) (o := .cells #[.int .i64 0, .slice none 0 0] 44 (0, 0)) (by (with_reducible repeat (first | refine xq ?_ _ | refine xr ?_ | refine xo ?_ _)); exact BK237.out) hg (Kd.S_ne HO_239001.out BK237.out (by decide))); have n1_ := xm (blk_grown (g := gb238) (o := .cells #[.int .i64 a1, u239001] 44 (0, 0)) (by (with_reducible repeat (first | refine xq ?_ _ | refine xr ?_ | refine xo ?_ _)); exact BK238.out) hg (Kd.S_ne HO_239001.out BK238.out (by decide))); have n2_ := xm (blk_grown (g := gb240) (o := .cells #[.slice Ao38 x241000_2.length co38] 99 (0, 0)) (by (with_reducible repeat (first | refine xq ?_ _ | refine xr ?_ | refine xo ?_ _)); exact BK240.out) hg (Kd.S_away HO_239001.out (fun _ hk => hk.2))); have n3_ := xm (hb); have n4_ := xm (ho); clear BK237; clear BK238; clear BK240; clear HB; clear HO_239001; clear HO_241000; have BK237 := n0_; have BK238 := n1_; have BK240 := n2_; have HB := n3_; have HO250 := n4_; clear n0_ n1_ n2_ n3_ n4_; clear ho hb hg hat; obtain ⟨Ao39, co39, eo39⟩ := Kd.S_slice HO250.out; subst eo39; have hcz40_0 : w37.cell? ⟨gb238, 0, none⟩ = some (.int .i64 a1) := (xc BK238.out 0).trans rfl; have hcz40_1 : w37.cell? ⟨gb238, 1, none⟩ = some (u239001) := (xc BK238.out 1).trans rfl; have hfz40_0 := xf BK238.out 0; have hfz40_1 := xf BK238.out 1))
          go_roundg k2
          case measure => have := HK1.out; have := HK2.out; omega
          case rel => exact ⟨(wrap64 (x14_1 + 1)), (y248), (.slice Ao39 y248.length co39), (by first | rfl | (simp; done) | (simp [*]; done)), H', ⟨by have := HK1.out; have := HK2.out; omega⟩, ⟨by (with_reducible repeat (first | apply Kd.S_alloc | apply Kd.S_drewN | apply Kd.S_drew)); exact Kd.S_mono (Kd.S_far (p := ⟨gb238, 1, none⟩) (Kd.S_types HO250.out BK238.out (by decide)) (fun _ hk => hk.2) (.slice Ao39 y248.length co39)) (fun _ hk => trivial)⟩, ⟨by (with_reducible repeat (first | refine xq ?_ _ | refine xr ?_ | refine xo ?_ _)); refine blk_far ?_ NB237_238.out _; (with_reducible repeat (first | refine xq ?_ _ | refine xr ?_ | refine xo ?_ _)); exact BK237.out⟩, ⟨by (with_reducible repeat (first | refine xq ?_ _ | refine xr ?_ | refine xo ?_ _)); refine blk_put (cs := #[.int .i64 a1, u239001]) ?_ 1 _ rfl; (with_reducible repeat (first | refine xq ?_ _ | refine xr ?_ | refine xo ?_ _)); exact BK238.out⟩, ⟨by repeat (first | (with_reducible first | exact HB.out | apply xa | apply xn | apply xd | refine xt ?_ GE237.out | refine xt ?_ GE238.out | refine xt ?_ GE240.out) | exact HB.out)⟩⟩
         ·rw [if_neg c31] at H
          exact absurd H (by simp)
     ·rw [if_neg c9] at H
      exact absurd H (by simp)
    ·rw [if_neg c8] at H
     exact absurd H (by simp)
   ·rw [if_neg c7] at H
    have c7b0 : decide (x14_1 < (l0.length : Int)) = false := decide_eq_false c7
    clear c7
    simp only [Option.some.injEq, Prod.mk.injEq] at H
    obtain ⟨rfl, rfl⟩ := H
    have hnb41 := NB238_237.out
    have hnc41 := NB237_238.out
    have hcz42_0 : wr.cell? ⟨gb238, 0, none⟩ = some (.int .i64 a1) := (xc BK238.out 0).trans rfl
    have hcz42_1 : wr.cell? ⟨gb238, 1, none⟩ = some (u239001) := (xc BK238.out 1).trans rfl
    have hfz42_0 := xf BK238.out 0
    have hfz42_1 := xf BK238.out 1
    have hcz43_0 : wr.cell? ⟨gb237, 0, none⟩ = some (.int .i64 0) := (xc BK237.out 0).trans rfl
    have hcz43_1 : wr.cell? ⟨gb237, 1, none⟩ = some (.slice none 0 0) := (xc BK237.out 1).trans rfl
    have hfz43_0 := xf BK237.out 0
    have hfz43_1 := xf BK237.out 1
    obtain ⟨Ao44, co44, eo44⟩ := Kd.S_slice HO_239001.out
    subst eo44
    go_wp2
    refine bodyPost_ret (results_cell_row rfl _ _ gb237 44 #[.int .i64 a1, .slice Ao44 x239001_1.length co44] (0, 0) _ rfl (by (with_reducible repeat (first | refine xq ?_ _ | refine xr ?_ | refine xo ?_ _)); refine blk_put (cs := #[.int .i64 a1, .slice none 0 0]) ?_ 1 _ rfl; (with_reducible repeat (first | refine xq ?_ _ | refine xr ?_ | refine xo ?_ _)); refine blk_put (cs := #[.int .i64 0, .slice none 0 0]) ?_ 0 _ rfl; (with_reducible repeat (first | refine xq ?_ _ | refine xr ?_ | refine xo ?_ _)); exact BK237.out) Try.underlying44 rfl (by kernel_rfl)) rfl ?_
    exact ⟨_, by first | rfl | (simp [errW_none, errW_some] <;> rfl) | (simp [*, errW_none, errW_some] <;> rfl), by (with_reducible repeat (first | apply Kd.S_alloc | apply Kd.S_drewN | apply Kd.S_drew)); exact Kd.S_mono (Kd.S_far (p := ⟨gb237, 1, none⟩) (Kd.S_far (p := ⟨gb237, 0, none⟩) (Kd.S_types HO_239001.out BK237.out (by decide)) (fun _ hk => hk.2) (.int .i64 a1)) (fun _ hk => hk.2) (.slice Ao44 x239001_1.length co44)) (fun _ hk => trivial), by repeat (first | (with_reducible first | exact HB.out | apply xa | apply xn | apply xd | refine xt ?_ GE237.out | refine xt ?_ GE238.out) | exact HB.out)⟩

/-! ### slices_Index_Lint_int: function 154 -/
def slices_Index_Lint_int.l0 : Nat → List Int → Int → Int → Int → Option (Int)
 | 0, _, _, _, _ => none
 | k + 1, x0, x1, x7, x8 => if x8 < x7 then (if 0 ≤ x8 then (if x8 < (x0.length : Int) then (if x1 = (rd x0 x8) then (some x8) else (slices_Index_Lint_int.l0 k x0 x1 x7 (wrap64 (x8 + 1)))) else (none)) else (none)) else (some (-1))
def slices_Index_Lint_int.f (k : Nat) (l0 : List Int) (a1 : Int) : Option (Int) := slices_Index_Lint_int.l0 k l0 a1 (l0.length : Int) 0
theorem slices_Index_Lint_int.mono_l : ∀ k, (∀ y0 y1 y2 y3, LeO (slices_Index_Lint_int.l0 k y0 y1 y2 y3) (slices_Index_Lint_int.l0 (k + 1) y0 y1 y2 y3))
 | 0 => fun _ _ _ _ r h => by simp [slices_Index_Lint_int.l0] at h
 | k + 1 => by
  have ih0 := slices_Index_Lint_int.mono_l k
  ·intro y0 y1 y2 y3
   unfold slices_Index_Lint_int.l0
   repeat' first
   | (with_reducible exact ih0 _ _ _ _)
   | (with_reducible exact LeO.refl _)
   | (with_reducible exact LeO.none _)
   | (with_reducible refine LeO.ite ?_ ?_)
   | (with_reducible refine LeO.bind ?_ (fun _ => ?_))
   | exact ih0 _ _ _ _
   | exact LeO.none _
   | refine LeO.ite ?_ ?_
   | refine LeO.bind ?_ (fun _ => ?_)
theorem slices_Index_Lint_int.mono : ∀ a0 a1 k, LeO (slices_Index_Lint_int.f k a0 a1) (slices_Index_Lint_int.f (k + 1) a0 a1) := by
 intro a0 a1 k
 have ih0 := slices_Index_Lint_int.mono_l k
 unfold slices_Index_Lint_int.f
 repeat' first
   | (with_reducible exact ih0 _ _ _ _)
   | (with_reducible exact LeO.refl _)
   | (with_reducible exact LeO.none _)
   | (with_reducible refine LeO.ite ?_ ?_)
   | (with_reducible refine LeO.bind ?_ (fun _ => ?_))
   | exact ih0 _ _ _ _
   | exact LeO.none _
   | refine LeO.ite ?_ ?_
   | refine LeO.bind ?_ (fun _ => ?_)
set_option maxHeartbeats 8000000 in
set_option maxRecDepth 100000 in
theorem slices_Index_Lint_int.calls (k : Nat) (A0 : Option Addr) (c0 : Nat) (l0 : List Int) (a1 : Int) (r : Int) (w : World) (hr0 : Kd.C (Kd.int .i64) w A0 l0.length l0) (hc0 : l0.length ≤ c0) (h : slices_Index_Lint_int.f k l0 a1 = some r) :
  Calls Try.prog 154 #[.slice A0 l0.length c0, .int .i64 a1] w fun e w' => e = .returned (.int .i64 r) ∧ Drawn0 w w' := by
 have HR0 := xm hr0
 have HC0 := xm hc0
 clear hr0 hc0
 have H : (slices_Index_Lint_int.l0 k l0 a1 (l0.length : Int) 0) = some r := h
 clear h
 have H' := xm H
 clear H
 go_enter Try.func154, Try.ntmps154
 go_wp2
 go_loopg [8] k (fun kq v8 w' => ∃ (x8_1 : Int), v8 = .int .i64 x8_1 ∧ Aside0 (slices_Index_Lint_int.l0 kq l0 a1 (l0.length : Int) x8_1 = some r) ∧ Aside0 (kq ≤ k) ∧ Drawn0 w w')
 case atStart => exact ⟨(0), (by first | rfl | (simp; done) | (simp [*]; done)), H', ⟨Nat.le_refl _⟩, by repeat (first | exact Drawn0.refl _ | apply Drawn0.step)⟩
 case round =>
  clear H'
  try clear c1
  try clear p2
  obtain ⟨x8_1, rfl, HA, HK1, ⟨m1, rfl⟩⟩ := hrel
  cases gk with
  | zero => exact absurd HA.out (by simp [slices_Index_Lint_int.l0])
  | succ k1 =>
   have H := HA.out
   clear HA
   simp only [slices_Index_Lint_int.l0] at H
   by_cases c3 : x8_1 < (l0.length : Int)
   ·rw [if_pos c3] at H
    have c3b0 : decide (x8_1 < (l0.length : Int)) = true := decide_eq_true c3
    clear c3
    by_cases c4 : 0 ≤ x8_1
    ·rw [if_pos c4] at H
     have c4b0 : decide (0 ≤ x8_1) = true := decide_eq_true c4
     clear c4
     by_cases c5 : x8_1 < (l0.length : Int)
     ·rw [if_pos c5] at H
      have c5b0 : decide (x8_1 < (l0.length : Int)) = true := decide_eq_true c5
      clear c5
      by_cases c6 : a1 = (rd l0 x8_1)
      ·rw [if_pos c6] at H
       have c6b0 : (a1 == (rd l0 x8_1)) = true := beq_iff_eq.mpr c6
       have c6b1 : (a1 != (rd l0 x8_1)) = false := bne_eq_false_iff_eq.mpr c6
       clear c6
       obtain rfl := Option.some.inj H
       have p319 : 0 ≤ (x8_1 : Int) := of_decide_eq_true (by first | (with_reducible assumption) | assumption)
       have q319 : x8_1 < (l0.length : Int) := of_decide_eq_true (by first | (with_reducible assumption) | assumption)
       obtain ⟨ad319, e319, hx319_0⟩ := Kd.at_int HR0.out x8_1 p319 q319
       cases e319
       replace p319 := eq_true p319
       replace q319 := eq_true q319
       go_wp2
       go_ret
       exact ⟨by first | rfl | (simp; done) | (simp [*]; done), by repeat (first | exact Drawn0.refl _ | apply Drawn0.step)⟩
      ·rw [if_neg c6] at H
       have c6b0 : (a1 == (rd l0 x8_1)) = false := beq_eq_false_iff_ne.mpr c6
       have c6b1 : (a1 != (rd l0 x8_1)) = true := bne_iff_ne.mpr c6
       have H' := xm H
       clear H
       have p319 : 0 ≤ (x8_1 : Int) := of_decide_eq_true (by first | (with_reducible assumption) | assumption)
       have q319 : x8_1 < (l0.length : Int) := of_decide_eq_true (by first | (with_reducible assumption) | assumption)
       obtain ⟨ad319, e319, hx319_0⟩ := Kd.at_int HR0.out x8_1 p319 q319
       cases e319
       replace p319 := eq_true p319
       replace q319 := eq_true q319
       go_wp2
       go_roundg k1
       case measure => have := HK1.out; omega
       case rel => exact ⟨(wrap64 (x8_1 + 1)), (by first | rfl | (simp; done) | (simp [*]; done)), H', ⟨by have := HK1.out; omega⟩, by repeat (first | exact Drawn0.refl _ | apply Drawn0.step)⟩
     ·rw [if_neg c5] at H
      exact absurd H (by simp)
    ·rw [if_neg c4] at H
     exact absurd H (by simp)
   ·rw [if_neg c3] at H
    have c3b0 : decide (x8_1 < (l0.length : Int)) = false := decide_eq_false c3
    clear c3
    obtain rfl := Option.some.inj H
    go_wp2
    go_ret
    exact ⟨by first | rfl | (simp; done) | (simp [*]; done), by repeat (first | exact Drawn0.refl _ | apply Drawn0.step)⟩

/-! ### slices_Contains_Lint_int: function 121 -/
def slices_Contains_Lint_int.f (k : Nat) (l0 : List Int) (a1 : Int) : Option (Bool) := (slices_Index_Lint_int.f k l0 a1).bind fun t320 => (some (decide (t320 ≥ 0)))
theorem slices_Contains_Lint_int.mono : ∀ a0 a1 k, LeO (slices_Contains_Lint_int.f k a0 a1) (slices_Contains_Lint_int.f (k + 1) a0 a1) := by
 intro a0 a1 k
 unfold slices_Contains_Lint_int.f
 repeat' first
   | (with_reducible exact slices_Index_Lint_int.mono _ _ _)
   | (with_reducible exact LeO.refl _)
   | (with_reducible exact LeO.none _)
   | (with_reducible refine LeO.ite ?_ ?_)
   | (with_reducible refine LeO.bind ?_ (fun _ => ?_))
   | exact slices_Index_Lint_int.mono _ _ _
   | exact LeO.none _
   | refine LeO.ite ?_ ?_
   | refine LeO.bind ?_ (fun _ => ?_)
set_option maxHeartbeats 8000000 in
set_option maxRecDepth 100000 in
theorem slices_Contains_Lint_int.calls (k : Nat) (A0 : Option Addr) (c0 : Nat) (l0 : List Int) (a1 : Int) (r : Bool) (w : World) (hr0 : Kd.C (Kd.int .i64) w A0 l0.length l0) (hc0 : l0.length ≤ c0) (h : slices_Contains_Lint_int.f k l0 a1 = some r) :
  Calls Try.prog 121 #[.slice A0 l0.length c0, .int .i64 a1] w fun e w' => e = .returned (.bool r) ∧ Drawn0 w w' := by
 have HR0 := xm hr0
 have HC0 := xm hc0
 clear hr0 hc0
 have H : ((slices_Index_Lint_int.f k l0 a1).bind fun t320 => (some (decide (t320 ≥ 0)))) = some r := h
 clear h
 replace H := Option.bind_eq_some_iff.mp H
 obtain ⟨t320, A30, H⟩ := H
 replace H : (some (decide (t320 ≥ 0))) = some r := H
 have A3 := xm A30
 clear A30
 obtain rfl := Option.some.inj H
 go_enter Try.func121, Try.ntmps121
 go_wp2_with (first | ((with_reducible refine gate_callee (f := 154) rfl ?_); refine goesL_ (some 7) rfl rfl Try.func154 (by kernel_rfl) rfl #[.slice A0 l0.length c0, .int .i64 a1] rfl (by (try simp only [List.map_toArray, List.map_cons, List.map_nil]); first | done | rfl | (simp only [List.length_drop, List.length_take]; rfl)) ?_; (with_reducible refine (slices_Index_Lint_int.calls k _ _ l0 a1 t320 _ ?side1 ?side2 A3.out).mono ?_); (case side1 => repeat (first | exact HR0.out | (with_reducible refine Kd.C_alloc ?_ _) | (with_reducible refine Kd.C_drewN ?_ _) | (with_reducible refine Kd.C_drew ?_))); (case side2 => exact HC0.out); rintro e w' ⟨rfl, ⟨nd, rfl⟩⟩; refine ⟨_, rfl, ?_⟩))
 go_ret
 exact ⟨by first | rfl | (simp; done) | (simp [*]; done), by repeat (first | exact Drawn0.refl _ | apply Drawn0.step)⟩

/-! ### impl_start: function 67 -/
mutual
def impl_start.l0 : Nat → Int → List (List Int) → Int → Int → Int → List (S99) → Option (Int × (List (S99)))
 | 0, _, _, _, _, _, _ => none
 | k + 1, x1, x13, x14, x15, x323000, x323001 => if x15 < x14 then (if 0 ≤ x15 then (if x15 < (x13.length : Int) then (impl_start.l1 k x1 x15 (rd_L1 x13 x15) x13 x14 x15 x1 0 x323000 x323001 ([] : List Int)) else (none)) else (none)) else (some (x323000, x323001))
def impl_start.l1 : Nat → Int → Int → List Int → List (List Int) → Int → Int → Int → Int → Int → List (S99) → List Int → Option (Int × (List (S99)))
 | 0, _, _, _, _, _, _, _, _, _, _, _ => none
 | k + 1, x1, x6, x7, x13, x14, x15, x20, x21, x323000, x323001, x325000 => if x21 < x20 then ((slices_Contains_Lint_int.f k x7 x21).bind fun t325 => (if t325 = true then (if x325000.length < 17592186044416 then (impl_start.l1 k x1 x6 x7 x13 x14 x15 x20 (wrap64 (x21 + 1)) x323000 x323001 (x325000 ++ [0])) else (none)) else (if x325000.length < 17592186044416 then (impl_start.l1 k x1 x6 x7 x13 x14 x15 x20 (wrap64 (x21 + 1)) x323000 x323001 (x325000 ++ [wrap64 ((wrap64 ((wrap64 (x6 * 6)) + x21)) + 1)])) else (none)))) else (if x323001.length < 5864062014805 then (impl_start.l0 k x1 x13 x14 (wrap64 (x15 + 1)) x323000 (x323001 ++ [(⟨x325000⟩ : S99)])) else (none))
end
def impl_start.f (k : Nat) (l0 : List (List Int)) (a1 : Int) : Option (Int × (List (S99))) := impl_start.l0 k a1 l0 (l0.length : Int) 0 a1 ([] : List (S99))
theorem impl_start.mono_l : ∀ k, (∀ y0 y1 y2 y3 y4 y5, LeO (impl_start.l0 k y0 y1 y2 y3 y4 y5) (impl_start.l0 (k + 1) y0 y1 y2 y3 y4 y5)) ∧ (∀ y0 y1 y2 y3 y4 y5 y6 y7 y8 y9 y10, LeO (impl_start.l1 k y0 y1 y2 y3 y4 y5 y6 y7 y8 y9 y10) (impl_start.l1 (k + 1) y0 y1 y2 y3 y4 y5 y6 y7 y8 y9 y10))
 | 0 => ⟨fun _ _ _ _ _ _ r h => by simp [impl_start.l0] at h, fun _ _ _ _ _ _ _ _ _ _ _ r h => by simp [impl_start.l1] at h⟩
 | k + 1 => by
  obtain ⟨ih0, ih1⟩ := impl_start.mono_l k
  refine ⟨?_, ?_⟩
  ·intro y0 y1 y2 y3 y4 y5
   unfold impl_start.l0
   repeat' first
   | (with_reducible exact ih0 _ _ _ _ _ _)
   | (with_reducible exact ih1 _ _ _ _ _ _ _ _ _ _ _)
   | (with_reducible exact slices_Contains_Lint_int.mono _ _ _)
   | (with_reducible exact LeO.refl _)
   | (with_reducible exact LeO.none _)
   | (with_reducible refine LeO.ite ?_ ?_)
   | (with_reducible refine LeO.bind ?_ (fun _ => ?_))
   | exact ih0 _ _ _ _ _ _
   | exact ih1 _ _ _ _ _ _ _ _ _ _ _
   | exact slices_Contains_Lint_int.mono _ _ _
   | exact LeO.none _
   | refine LeO.ite ?_ ?_
   | refine LeO.bind ?_ (fun _ => ?_)
  ·intro y0 y1 y2 y3 y4 y5 y6 y7 y8 y9 y10
   unfold impl_start.l1
   repeat' first
   | (with_reducible exact ih0 _ _ _ _ _ _)
   | (with_reducible exact ih1 _ _ _ _ _ _ _ _ _ _ _)
   | (with_reducible exact slices_Contains_Lint_int.mono _ _ _)
   | (with_reducible exact LeO.refl _)
   | (with_reducible exact LeO.none _)
   | (with_reducible refine LeO.ite ?_ ?_)
   | (with_reducible refine LeO.bind ?_ (fun _ => ?_))
   | exact ih0 _ _ _ _ _ _
   | exact ih1 _ _ _ _ _ _ _ _ _ _ _
   | exact slices_Contains_Lint_int.mono _ _ _
   | exact LeO.none _
   | refine LeO.ite ?_ ?_
   | refine LeO.bind ?_ (fun _ => ?_)
theorem impl_start.mono : ∀ a0 a1 k, LeO (impl_start.f k a0 a1) (impl_start.f (k + 1) a0 a1) := by
 intro a0 a1 k
 obtain ⟨ih0, ih1⟩ := impl_start.mono_l k
 unfold impl_start.f
 repeat' first
   | (with_reducible exact ih0 _ _ _ _ _ _)
   | (with_reducible exact ih1 _ _ _ _ _ _ _ _ _ _ _)
   | (with_reducible exact slices_Contains_Lint_int.mono _ _ _)
   | (with_reducible exact LeO.refl _)
   | (with_reducible exact LeO.none _)
   | (with_reducible refine LeO.ite ?_ ?_)
   | (with_reducible refine LeO.bind ?_ (fun _ => ?_))
   | exact ih0 _ _ _ _ _ _
   | exact ih1 _ _ _ _ _ _ _ _ _ _ _
   | exact slices_Contains_Lint_int.mono _ _ _
   | exact LeO.none _
   | refine LeO.ite ?_ ?_
   | refine LeO.bind ?_ (fun _ => ?_)
set_option maxHeartbeats 8000000 in
set_option maxRecDepth 100000 in
theorem impl_start.calls (k : Nat) (A0 : Option Addr) (c0 : Nat) (l0 : List (List Int)) (a1 : Int) (r1 : Int) (r2 : List (S99)) (w : World) (hr0 : Kd.C (Kd.slice 3 (Kd.int .i64)) w A0 l0.length l0) (hc0 : l0.length ≤ c0) (h : impl_start.f k l0 a1 = some (r1, r2)) :
  Calls Try.prog 67 #[.slice A0 l0.length c0, .int .i64 a1] w fun e w' => ∃ v1_ : Value, e = .returned (.agg #[.int .i64 r1, v1_]) ∧ Kd.S k99 99 w' w.heap.size (fun _ => True) v1_ r2 ∧ Below w.heap.size w w' := by
 have hu44 := Try.underlying44
 have hu99 := Try.underlying99
 have HR0 := xm hr0
 have HC0 := xm hc0
 clear hr0 hc0
 have HB := xm (Below.refl w.heap.size w)
 have H : (impl_start.l0 k a1 l0 (l0.length : Int) 0 a1 ([] : List (S99))) = some (r1, r2) := h
 clear h
 have H' := xm H
 clear H
 go_enter Try.func67, Try.ntmps67
 go_wp2_with (first | ((with_reducible refine gate_dst (N := 4) rfl ?_); refine box_event ?hg (N := 4) ?hd (cs := #[.int .i64 0, .slice none 0 0]) (t := 44) ?hr ?_; (case hd => rfl); (case hg => rfl); (case hr => first | (go_simp; done) | (go_simp; rfl)); intro gb321 hg w3 hbox hb; have n0_ := xm (below_step (by repeat (first | (with_reducible first | exact HB.out | apply xa | apply xn | apply xd) | exact HB.out)) hb); have n1_ := xm (hbox); have n2_ := xm ((by rw [hg]; exact (xz (by repeat (first | (with_reducible first | exact HB.out | apply xa | apply xn | apply xd) | exact HB.out))) : w.heap.size ≤ gb321)); have n3_ := xm ((by rw [hg]; exact (xz (by repeat (first | (with_reducible first | exact HB.out | apply xa | apply xn | apply xd) | exact HB.out))) : w.heap.size ≤ gb321)); clear HB; have HB := n0_; have BK321 := n1_; have GW321 := n2_; have GE321 := n3_; clear n0_ n1_ n2_ n3_; clear hb hbox hg) | ((with_reducible refine gate_dst (N := 5) rfl ?_); refine box_event ?hg (N := 5) ?hd (cs := #[.int .i64 0, .slice none 0 0]) (t := 44) ?hr ?_; (case hd => rfl); (case hg => rfl); (case hr => first | (go_simp; done) | (go_simp; rfl)); intro gb322 hg w4 hbox hb; have n0_ := xm (blk_below (g := gb321) (o := .cells #[.int .i64 0, .slice none 0 0] 44 (0, 0)) (by (with_reducible repeat (first | refine xq ?_ _ | refine xr ?_ | refine xo ?_ _)); exact BK321.out) hb); have n1_ := xm (below_step (by repeat (first | (with_reducible first | exact HB.out | apply xa | apply xn | apply xd | refine xt ?_ GE321.out) | exact HB.out)) hb); have n2_ := xm (hbox); have n3_ := xm ((by rw [hg]; exact (xz (by repeat (first | (with_reducible first | exact HB.out | apply xa | apply xn | apply xd | refine xt ?_ GE321.out) | exact HB.out))) : w.heap.size ≤ gb322)); have n4_ := xm ((by rw [hg]; exact (xz (by repeat (first | (with_reducible first | exact HB.out | apply xa | apply xn | apply xd | refine xt ?_ GE321.out) | exact HB.out))) : w.heap.size ≤ gb322)); have n5_ := xm ((by rw [hg]; exact Nat.ne_of_lt (blk_lt (g := gb321) (o := .cells #[.int .i64 0, .slice none 0 0] 44 (0, 0)) (by (with_reducible repeat (first | refine xq ?_ _ | refine xr ?_ | refine xo ?_ _)); exact BK321.out)) : gb321 ≠ gb322)); have n6_ := xm ((by rw [hg]; exact Nat.ne_of_gt (blk_lt (g := gb321) (o := .cells #[.int .i64 0, .slice none 0 0] 44 (0, 0)) (by (with_reducible repeat (first | refine xq ?_ _ | refine xr ?_ | refine xo ?_ _)); exact BK321.out)) : gb322 ≠ gb321)); clear BK321; clear HB; have BK321 := n0_; have HB := n1_; have BK322 := n2_; have GW322 := n3_; have GE322 := n4_; have NB321_322 := n5_; have NB322_321 := n6_; clear n0_ n1_ n2_ n3_ n4_ n5_ n6_; clear hb hbox hg; have hnb5 := NB322_321.out; have hnc5 := NB321_322.out; have hcz6_0 : w4.cell? ⟨gb322, 0, none⟩ = some (.int .i64 0) := (xc BK322.out 0).trans rfl; have hcz6_1 : w4.cell? ⟨gb322, 1, none⟩ = some (.slice none 0 0) := (xc BK322.out 1).trans rfl; have hfz6_0 := xf BK322.out 0; have hfz6_1 := xf BK322.out 1))
 go_loopg [15] k (fun kq v15 w' => ∃ (x15_1 : Int) (x323001_1 : List (S99)) (u323001 : Value), v15 = .int .i64 x15_1 ∧ Aside0 (impl_start.l0 kq a1 l0 (l0.length : Int) x15_1 a1 x323001_1 = some (r1, r2)) ∧ Aside0 (kq ≤ k) ∧ Aside0 (Kd.S k99 99 w' w.heap.size (fun _ => True) u323001 x323001_1) ∧ Aside0 (w'.heap[gb321]? = some (.cells #[.int .i64 0, (.slice none 0 0)] 44 (0, 0))) ∧ Aside0 (w'.heap[gb322]? = some (.cells #[.int .i64 a1, u323001] 44 (0, 0))) ∧ Aside0 (Below w.heap.size w w'))
 case atStart => exact ⟨(0), (([] : List (S99))), (.slice none 0 0), (by first | rfl | (simp; done) | (simp [*]; done)), H', ⟨Nat.le_refl _⟩, ⟨by first | exact Kd.S_nil _ _ _ _ _ | exact Kd.N_nil _ _ _ _ _ | exact Kd.V_nil _ _ _ _ _ | exact Kd.Q_nil _ _ _ _ _ | exact Kd.R_nil _ _ _ _ _⟩, ⟨by (with_reducible repeat (first | refine xq ?_ _ | refine xr ?_ | refine xo ?_ _)); refine blk_far ?_ NB321_322.out _; (with_reducible repeat (first | refine xq ?_ _ | refine xr ?_ | refine xo ?_ _)); refine blk_far ?_ NB321_322.out _; (with_reducible repeat (first | refine xq ?_ _ | refine xr ?_ | refine xo ?_ _)); exact BK321.out⟩, ⟨by (with_reducible repeat (first | refine xq ?_ _ | refine xr ?_ | refine xo ?_ _)); refine blk_put (cs := #[.int .i64 a1, .slice none 0 0]) ?_ 1 _ rfl; (with_reducible repeat (first | refine xq ?_ _ | refine xr ?_ | refine xo ?_ _)); refine blk_put (cs := #[.int .i64 0, .slice none 0 0]) ?_ 0 _ rfl; (with_reducible repeat (first | refine xq ?_ _ | refine xr ?_ | refine xo ?_ _)); exact BK322.out⟩, ⟨by repeat (first | (with_reducible first | exact HB.out | apply xa | apply xn | apply xd | refine xt ?_ GE321.out | refine xt ?_ GE322.out) | exact HB.out)⟩⟩
 case round =>
  clear H'
  try clear p2
  try clear c5
  try clear c6
  try clear hcz6_0
  try clear hcz6_1
  try clear hfz6_0
  try clear hfz6_1
  obtain ⟨x15_1, x323001_1, u323001, rfl, HA, HK1, HO_323001, BK321, BK322, HB⟩ := hrel
  cases gk with
  | zero => exact absurd HA.out (by simp [impl_start.l0])
  | succ k1 =>
   have H := HA.out
   clear HA
   simp only [impl_start.l0] at H
   by_cases c7 : x15_1 < (l0.length : Int)
   ·rw [if_pos c7] at H
    have c7b0 : decide (x15_1 < (l0.length : Int)) = true := decide_eq_true c7
    clear c7
    by_cases c8 : 0 ≤ x15_1
    ·rw [if_pos c8] at H
     have c8b0 : decide (0 ≤ x15_1) = true := decide_eq_true c8
     clear c8
     by_cases c9 : x15_1 < (l0.length : Int)
     ·rw [if_pos c9] at H
      have c9b0 : decide (x15_1 < (l0.length : Int)) = true := decide_eq_true c9
      clear c9
      have H' := xm H
      clear H
      have p323 : 0 ≤ (x15_1 : Int) := of_decide_eq_true (by first | (with_reducible assumption) | assumption)
      have q323 : x15_1 < (l0.length : Int) := of_decide_eq_true (by first | (with_reducible assumption) | assumption)
      obtain ⟨ad323, A323_0, c323_0, e323, hx323_0, hl323_0, hi323_0⟩ := at_L1 HR0.out x15_1 p323 q323
      cases e323
      replace hx323_0 := (HB.out.cell (World.block_lt_of_cell? w _ hx323_0)).trans hx323_0
      have HR323_0 := xm hi323_0
      have HC323_0 := xm hl323_0
      clear hi323_0 hl323_0
      replace p323 := eq_true p323
      replace q323 := eq_true q323
      go_wp2_with (first | ((with_reducible refine gate_dst (N := 8) rfl ?_); refine box_event ?hg (N := 8) ?hd (cs := #[.slice none 0 0]) (t := 99) ?hr ?_; (case hd => rfl); (case hg => rfl); (case hr => first | (go_simp; done) | (go_simp; rfl)); intro gb324 hg w10 hbox hb; have n0_ := xm (Kd.S_below (Kd.S_elderB (by (with_reducible repeat (first | apply Kd.S_alloc | apply Kd.S_drewN | apply Kd.S_drew)); exact HO_323001.out) gb324 (Nat.le_of_eq hg.symm)) hb); have n1_ := xm (blk_below (g := gb321) (o := .cells #[.int .i64 0, .slice none 0 0] 44 (0, 0)) (by (with_reducible repeat (first | refine xq ?_ _ | refine xr ?_ | refine xo ?_ _)); exact BK321.out) hb); have n2_ := xm (blk_below (g := gb322) (o := .cells #[.int .i64 a1, u323001] 44 (0, 0)) (by (with_reducible repeat (first | refine xq ?_ _ | refine xr ?_ | refine xo ?_ _)); exact BK322.out) hb); have n3_ := xm (below_step (by repeat (first | (with_reducible first | exact HB.out | apply xa | apply xn | apply xd | refine xt ?_ GE321.out | refine xt ?_ GE322.out) | exact HB.out)) hb); have n4_ := xm (hbox); have n5_ := xm ((by rw [hg]; exact (xz (by repeat (first | (with_reducible first | exact HB.out | apply xa | apply xn | apply xd | refine xt ?_ GE321.out | refine xt ?_ GE322.out) | exact HB.out))) : w.heap.size ≤ gb324)); have n6_ := xm ((by rw [hg]; exact (xz (by repeat (first | (with_reducible first | exact HB.out | apply xa | apply xn | apply xd | refine xt ?_ GE321.out | refine xt ?_ GE322.out) | exact HB.out))) : w.heap.size ≤ gb324)); have n7_ := xm ((by rw [hg]; exact Nat.ne_of_lt (blk_lt (g := gb321) (o := .cells #[.int .i64 0, .slice none 0 0] 44 (0, 0)) (by (with_reducible repeat (first | refine xq ?_ _ | refine xr ?_ | refine xo ?_ _)); exact BK321.out)) : gb321 ≠ gb324)); have n8_ := xm ((by rw [hg]; exact Nat.ne_of_gt (blk_lt (g := gb321) (o := .cells #[.int .i64 0, .slice none 0 0] 44 (0, 0)) (by (with_reducible repeat (first | refine xq ?_ _ | refine xr ?_ | refine xo ?_ _)); exact BK321.out)) : gb324 ≠ gb321)); have n9_ := xm ((by rw [hg]; exact Nat.ne_of_lt (blk_lt (g := gb322) (o := .cells #[.int .i64 a1, u323001] 44 (0, 0)) (by (with_reducible repeat (first | refine xq ?_ _ | refine xr ?_ | refine xo ?_ _)); exact BK322.out)) : gb322 ≠ gb324)); have n10_ := xm ((by rw [hg]; exact Nat.ne_of_gt (blk_lt (g := gb322) (o := .cells #[.int .i64 a1, u323001] 44 (0, 0)) (by (with_reducible repeat (first | refine xq ?_ _ | refine xr ?_ | refine xo ?_ _)); exact BK322.out)) : gb324 ≠ gb322)); clear HO_323001; clear BK321; clear BK322; clear HB; have HO_323001 := n0_; have BK321 := n1_; have BK322 := n2_; have HB := n3_; have BK324 := n4_; have GW324 := n5_; have GE324 := n6_; have NB321_324 := n7_; have NB324_321 := n8_; have NB322_324 := n9_; have NB324_322 := n10_; clear n0_ n1_ n2_ n3_ n4_ n5_ n6_ n7_ n8_ n9_ n10_; clear hb hbox hg))
      go_loopg [21] k1 (fun kq v21 w' => ∃ (x21_2 : Int) (x325000_2 : List Int) (u325000 : Value), v21 = .int .i64 x21_2 ∧ Aside0 (impl_start.l1 kq a1 x15_1 (rd_L1 l0 x15_1) l0 (l0.length : Int) x15_1 a1 x21_2 a1 x323001_1 x325000_2 = some (r1, r2)) ∧ Aside0 (kq ≤ k1) ∧ Aside0 (Kd.S k99 99 w' w.heap.size (fun k_ => some k_ ≠ (u325000 : Value).ownBlock ∧ k_ ≠ gb324) u323001 x323001_1) ∧ Aside0 (Kd.R (Kd.int .i64) 3 w' w.heap.size (fun _ => True) u325000 x325000_2) ∧ Aside0 (w'.heap[gb321]? = some (.cells #[.int .i64 0, (.slice none 0 0)] 44 (0, 0))) ∧ Aside0 (w'.heap[gb322]? = some (.cells #[.int .i64 a1, u323001] 44 (0, 0))) ∧ Aside0 (w'.heap[gb324]? = some (.cells #[u325000] 99 (0, 0))) ∧ Aside0 (Below w.heap.size w w'))
      case atStart => exact ⟨(0), (([] : List Int)), (.slice none 0 0), (by first | rfl | (simp; done) | (simp [*]; done)), H', ⟨Nat.le_refl _⟩, ⟨by (with_reducible repeat (first | apply Kd.S_alloc | apply Kd.S_drewN | apply Kd.S_drew)); exact Kd.S_mono HO_323001.out (fun _ hk => ⟨(by simp [Value.ownBlock]), hk.2⟩)⟩, ⟨by first | exact Kd.R_nil _ _ _ _ _ | exact Kd.N_nil _ _ _ _ _ | exact Kd.V_nil _ _ _ _ _ | exact Kd.Q_nil _ _ _ _ _ | exact Kd.S_nil _ _ _ _ _⟩, ⟨by (with_reducible repeat (first | refine xq ?_ _ | refine xr ?_ | refine xo ?_ _)); exact BK321.out⟩, ⟨by (with_reducible repeat (first | refine xq ?_ _ | refine xr ?_ | refine xo ?_ _)); exact BK322.out⟩, ⟨by (with_reducible repeat (first | refine xq ?_ _ | refine xr ?_ | refine xo ?_ _)); exact BK324.out⟩, ⟨by repeat (first | (with_reducible first | exact HB.out | apply xa | apply xn | apply xd | refine xt ?_ GE321.out | refine xt ?_ GE322.out | refine xt ?_ GE324.out) | exact HB.out)⟩⟩
      case round =>
       clear H'
       try clear p2
       try clear c3
       try clear p3
       try clear q3
       try clear hx3
       try clear c5
       try clear c6
       try clear c7
       try clear c7b0
       try clear c8
       try clear c8b0
       try clear c9
       try clear c9b0
       try clear hcz6_0
       try clear hcz6_1
       try clear hfz6_0
       try clear hfz6_1
       try clear hx323_0
       try clear p2
       try clear p323
       try clear q323
       obtain ⟨x21_2, x325000_2, u325000, rfl, HA, HK2, HO_323001, HO_325000, BK321, BK322, BK324, HB⟩ := hrel
       cases gk with
       | zero => exact absurd HA.out (by simp [impl_start.l1])
       | succ k2 =>
        have H := HA.out
        clear HA
        simp only [impl_start.l1] at H
        by_cases c11 : x21_2 < a1
        ·rw [if_pos c11] at H
         have c11b0 : decide (x21_2 < a1) = true := decide_eq_true c11
         clear c11
         replace H := Option.bind_eq_some_iff.mp H
         obtain ⟨t325, A120, H⟩ := H
         replace H : (if t325 = true then (if x325000_2.length < 17592186044416 then (impl_start.l1 k2 a1 x15_1 (rd_L1 l0 x15_1) l0 (l0.length : Int) x15_1 a1 (wrap64 (x21_2 + 1)) a1 x323001_1 (x325000_2 ++ [0])) else (none)) else (if x325000_2.length < 17592186044416 then (impl_start.l1 k2 a1 x15_1 (rd_L1 l0 x15_1) l0 (l0.length : Int) x15_1 a1 (wrap64 (x21_2 + 1)) a1 x323001_1 (x325000_2 ++ [wrap64 ((wrap64 ((wrap64 (x15_1 * 6)) + x21_2)) + 1)])) else (none))) = some (r1, r2) := H
         have A12 := xm A120
         clear A120
         by_cases c13 : t325 = true
         ·subst c13
          have H1 : (if x325000_2.length < 17592186044416 then (impl_start.l1 k2 a1 x15_1 (rd_L1 l0 x15_1) l0 (l0.length : Int) x15_1 a1 (wrap64 (x21_2 + 1)) a1 x323001_1 (x325000_2 ++ [0])) else (none)) = some (r1, r2) := by first | (with_reducible rfl) | (rw [if_pos rfl] at H; exact H)
          clear H
          have H := H1
          clear H1
          by_cases c14 : x325000_2.length < 17592186044416
          ·rw [if_pos c14] at H
           have LMc14 := xm c14
           clear c14
           obtain ⟨y326, hy326⟩ : ∃ y_ : List Int, y_ = (x325000_2 ++ [0]) := ⟨_, rfl⟩
           replace H : (impl_start.l1 k2 a1 x15_1 (rd_L1 l0 x15_1) l0 (l0.length : Int) x15_1 a1 (wrap64 (x21_2 + 1)) a1 x323001_1 y326) = some (r1, r2) := by first | (rw [hy326]; with_reducible exact H) | (have H2_ := (Option.bind_some _ _).symm.trans H; rw [hy326]; with_reducible exact H2_) | (have H2_ := (Option.bind_some _ _).symm.trans H; with_reducible exact H2_) | with_reducible exact H | (rw [hy326]; exact H) | exact H
           have Ny326 := xm hy326
           clear hy326
           have H' := xm H
           clear H
           go_wp2_with (first | ((with_reducible refine gate_callee (f := 121) rfl ?_); refine goesL_ (some 26) rfl rfl Try.func121 (by kernel_rfl) rfl #[.slice A323_0 (rd_L1 l0 x15_1).length c323_0, .int .i64 x21_2] rfl (by (try simp only [List.map_toArray, List.map_cons, List.map_nil]); first | done | rfl | (simp only [List.length_drop, List.length_take]; rfl)) ?_; (with_reducible refine (slices_Contains_Lint_int.calls k2 _ _ (rd_L1 l0 x15_1) x21_2 true _ ?side1 ?side2 A12.out).mono ?_); (case side1 => repeat (first | exact (Kd.C_below HR323_0.out HB.out) | (with_reducible refine Kd.C_alloc ?_ _) | (with_reducible refine Kd.C_drewN ?_ _) | (with_reducible refine Kd.C_drew ?_))); (case side2 => exact HC323_0.out); rintro e w' ⟨rfl, ⟨nd, rfl⟩⟩; refine ⟨_, rfl, ?_⟩; (first | (rw [drewN_self wr]; generalize hq_ : World.drewN wr _ = wr; have n0_ : Aside0 (Kd.S k99 99 wr w.heap.size (fun k_ => some k_ ≠ (u325000 : Value).ownBlock ∧ k_ ≠ gb324) u323001 x323001_1) := ⟨by rw [← hq_]; exact (by (with_reducible repeat (first | apply Kd.S_alloc | apply Kd.S_drewN | apply Kd.S_drew)); exact HO_323001.out)⟩; have n1_ : Aside0 (Kd.R (Kd.int .i64) 3 wr w.heap.size (fun _ => True) u325000 x325000_2) := ⟨by rw [← hq_]; exact (by (with_reducible repeat (first | apply Kd.R_alloc | apply Kd.R_drewN | apply Kd.R_drew)); exact HO_325000.out)⟩; have n2_ : Aside0 (wr.heap[gb321]? = some (.cells #[.int .i64 0, .slice none 0 0] 44 (0, 0))) := ⟨by rw [← hq_]; exact (by (with_reducible repeat (first | refine xq ?_ _ | refine xr ?_ | refine xo ?_ _)); exact BK321.out)⟩; have n3_ : Aside0 (wr.heap[gb322]? = some (.cells #[.int .i64 a1, u323001] 44 (0, 0))) := ⟨by rw [← hq_]; exact (by (with_reducible repeat (first | refine xq ?_ _ | refine xr ?_ | refine xo ?_ _)); exact BK322.out)⟩; have n4_ : Aside0 (wr.heap[gb324]? = some (.cells #[u325000] 99 (0, 0))) := ⟨by rw [← hq_]; exact (by (with_reducible repeat (first | refine xq ?_ _ | refine xr ?_ | refine xo ?_ _)); exact BK324.out)⟩; have n5_ : Aside0 (Below w.heap.size w wr) := ⟨by rw [← hq_]; exact (by repeat (first | (with_reducible first | exact HB.out | apply xa | apply xn | apply xd | refine xt ?_ GE321.out | refine xt ?_ GE322.out | refine xt ?_ GE324.out) | exact HB.out))⟩; clear HO_323001 HO_325000 BK321 BK322 BK324 HB hq_; have HO_323001 := n0_; have HO_325000 := n1_; have BK321 := n2_; have BK322 := n3_; have BK324 := n4_; have HB := n5_; clear n0_ n1_ n2_ n3_ n4_ n5_) | (have n0_ : Aside0 (Kd.S k99 99 wr w.heap.size (fun k_ => some k_ ≠ (u325000 : Value).ownBlock ∧ k_ ≠ gb324) u323001 x323001_1) := ⟨(by (with_reducible repeat (first | apply Kd.S_alloc | apply Kd.S_drewN | apply Kd.S_drew)); exact HO_323001.out)⟩; have n1_ : Aside0 (Kd.R (Kd.int .i64) 3 wr w.heap.size (fun _ => True) u325000 x325000_2) := ⟨(by (with_reducible repeat (first | apply Kd.R_alloc | apply Kd.R_drewN | apply Kd.R_drew)); exact HO_325000.out)⟩; have n2_ : Aside0 (wr.heap[gb321]? = some (.cells #[.int .i64 0, .slice none 0 0] 44 (0, 0))) := ⟨(by (with_reducible repeat (first | refine xq ?_ _ | refine xr ?_ | refine xo ?_ _)); exact BK321.out)⟩; have n3_ : Aside0 (wr.heap[gb322]? = some (.cells #[.int .i64 a1, u323001] 44 (0, 0))) := ⟨(by (with_reducible repeat (first | refine xq ?_ _ | refine xr ?_ | refine xo ?_ _)); exact BK322.out)⟩; have n4_ : Aside0 (wr.heap[gb324]? = some (.cells #[u325000] 99 (0, 0))) := ⟨(by (with_reducible repeat (first | refine xq ?_ _ | refine xr ?_ | refine xo ?_ _)); exact BK324.out)⟩; have n5_ : Aside0 (Below w.heap.size w wr) := ⟨(by repeat (first | (with_reducible first | exact HB.out | apply xa | apply xn | apply xd | refine xt ?_ GE321.out | refine xt ?_ GE322.out | refine xt ?_ GE324.out) | exact HB.out))⟩; clear HO_323001 HO_325000 BK321 BK322 BK324 HB; have HO_323001 := n0_; have HO_325000 := n1_; have BK321 := n2_; have BK322 := n3_; have BK324 := n4_; have HB := n5_; clear n0_ n1_ n2_ n3_ n4_ n5_)); have hnb15 := NB324_321.out; have hnc15 := NB321_324.out; have hnb16 := NB324_322.out; have hnc16 := NB322_324.out; have hcz17_0 : wr.cell? ⟨gb324, 0, none⟩ = some (u325000) := (xc BK324.out 0).trans rfl; have hfz17_0 := xf BK324.out 0) | ((with_reducible refine gate_builtin (b := .append) (xs := #[.tmp 34, .tmp 36]) rfl ?_); at_builtin; refine Kd.R_append (Kd.int .i64) (w0 := w) w.heap.size rfl (.tmp 34) (.tmp 36) 48 3 (.int .i64 0) 8 rfl Try.underlying48 info3 rfl (by decide) (by omega) u325000 x325000_2 0 [.int .i64 0] (fun _ => True) (fun _ => False) rfl rfl ?aP (fun _ hk => hk.elim) ?aF ?aO ?aB ?aS ?aL ?_; (case aP => exact rfl); (case aB => exact (by repeat (first | (with_reducible first | exact HB.out | apply xa | apply xn | apply xd | refine xt ?_ GE321.out | refine xt ?_ GE322.out | refine xt ?_ GE324.out) | exact HB.out))); (case aF => exact (fun _ _ => trivial)); (case aO => exact (by (with_reducible repeat (first | apply Kd.R_alloc | apply Kd.R_drewN | apply Kd.R_drew)); exact HO_325000.out)); (case aS => exact (xz (by repeat (first | (with_reducible first | exact HB.out | apply xa | apply xn | apply xd | refine xt ?_ GE321.out | refine xt ?_ GE322.out | refine xt ?_ GE324.out) | exact HB.out)))); (case aL => have := LMc14.out; omega); intro v327 w18 ho hb hg hat; rw [← Ny326.out] at ho; have n0_ := xm (Kd.S_after (ok := (fun k_ => k_ ≠ gb324)) (by (with_reducible repeat (first | apply Kd.S_alloc | apply Kd.S_drewN | apply Kd.S_drew)); exact Kd.S_mono HO_323001.out (fun _ hk => ⟨hk.2, hk.1⟩)) hg hat); have n1_ := xm (blk_grown (g := gb321) (o := .cells #[.int .i64 0, .slice none 0 0] 44 (0, 0)) (by (with_reducible repeat (first | refine xq ?_ _ | refine xr ?_ | refine xo ?_ _)); exact BK321.out) hg (Kd.R_ne HO_325000.out BK321.out (by decide))); have n2_ := xm (blk_grown (g := gb322) (o := .cells #[.int .i64 a1, u323001] 44 (0, 0)) (by (with_reducible repeat (first | refine xq ?_ _ | refine xr ?_ | refine xo ?_ _)); exact BK322.out) hg (Kd.R_ne HO_325000.out BK322.out (by decide))); have n3_ := xm (blk_grown (g := gb324) (o := .cells #[u325000] 99 (0, 0)) (by (with_reducible repeat (first | refine xq ?_ _ | refine xr ?_ | refine xo ?_ _)); exact BK324.out) hg (Kd.R_ne HO_325000.out BK324.out (by decide))); have n4_ := xm (hb); have n5_ := xm (ho); clear HO_323001; clear BK321; clear BK322; clear BK324; clear HB; clear HO_325000; have HO_323001 := n0_; have BK321 := n1_; have BK322 := n2_; have BK324 := n3_; have HB := n4_; have HO328 := n5_; clear n0_ n1_ n2_ n3_ n4_ n5_; clear ho hb hg hat; obtain ⟨Ao19, co19, eo19⟩ := Kd.R_slice HO328.out; subst eo19; have hcz20_0 : w18.cell? ⟨gb324, 0, none⟩ = some (u325000) := (xc BK324.out 0).trans rfl; have hfz20_0 := xf BK324.out 0))
           go_roundg k2
           case measure => have := HK1.out; have := HK2.out; omega
           case rel => exact ⟨(wrap64 (x21_2 + 1)), (y326), (.slice Ao19 y326.length co19), (by first | rfl | (simp; done) | (simp [*]; done)), H', ⟨by have := HK1.out; have := HK2.out; omega⟩, ⟨by (with_reducible repeat (first | apply Kd.S_alloc | apply Kd.S_drewN | apply Kd.S_drew)); exact Kd.S_mono (Kd.S_far (p := ⟨gb324, 0, none⟩) (Kd.S_mono HO_323001.out (fun k_ hk => (⟨hk, hk.1⟩ : _ ∧ k_ ≠ gb324))) (fun _ hk => hk.2) (.slice Ao19 y326.length co19)) (fun _ hk => ⟨hk.1.2, hk.1.1⟩)⟩, ⟨by (with_reducible repeat (first | apply Kd.R_alloc | apply Kd.R_drewN | apply Kd.R_drew)); exact Kd.R_mono (Kd.R_far (p := ⟨gb324, 0, none⟩) (Kd.R_types HO328.out BK324.out (by decide)) (fun _ hk => hk.2) (.slice Ao19 y326.length co19)) (fun _ hk => trivial)⟩, ⟨by (with_reducible repeat (first | refine xq ?_ _ | refine xr ?_ | refine xo ?_ _)); refine blk_far ?_ NB321_324.out _; (with_reducible repeat (first | refine xq ?_ _ | refine xr ?_ | refine xo ?_ _)); exact BK321.out⟩, ⟨by (with_reducible repeat (first | refine xq ?_ _ | refine xr ?_ | refine xo ?_ _)); refine blk_far ?_ NB322_324.out _; (with_reducible repeat (first | refine xq ?_ _ | refine xr ?_ | refine xo ?_ _)); exact BK322.out⟩, ⟨by (with_reducible repeat (first | refine xq ?_ _ | refine xr ?_ | refine xo ?_ _)); refine blk_put (cs := #[u325000]) ?_ 0 _ rfl; (with_reducible repeat (first | refine xq ?_ _ | refine xr ?_ | refine xo ?_ _)); exact BK324.out⟩, ⟨by repeat (first | (with_reducible first | exact HB.out | apply xa | apply xn | apply xd | refine xt ?_ GE321.out | refine xt ?_ GE322.out | refine xt ?_ GE324.out) | exact HB.out)⟩⟩
          ·rw [if_neg c14] at H
           exact absurd H (by simp)
         ·replace c13 := Bool.eq_false_iff.mpr c13
          subst c13
          have H1 : (if x325000_2.length < 17592186044416 then (impl_start.l1 k2 a1 x15_1 (rd_L1 l0 x15_1) l0 (l0.length : Int) x15_1 a1 (wrap64 (x21_2 + 1)) a1 x323001_1 (x325000_2 ++ [wrap64 ((wrap64 ((wrap64 (x15_1 * 6)) + x21_2)) + 1)])) else (none)) = some (r1, r2) := by first | (with_reducible rfl) | (rw [if_neg (show ¬ (false = true) by decide)] at H; exact H)
          clear H
          have H := H1
          clear H1
          by_cases c21 : x325000_2.length < 17592186044416
          ·rw [if_pos c21] at H
           have LMc21 := xm c21
           clear c21
           obtain ⟨y329, hy329⟩ : ∃ y_ : List Int, y_ = (x325000_2 ++ [wrap64 ((wrap64 ((wrap64 (x15_1 * 6)) + x21_2)) + 1)]) := ⟨_, rfl⟩
           replace H : (impl_start.l1 k2 a1 x15_1 (rd_L1 l0 x15_1) l0 (l0.length : Int) x15_1 a1 (wrap64 (x21_2 + 1)) a1 x323001_1 y329) = some (r1, r2) := by first | (rw [hy329]; with_reducible exact H) | (have H2_ := (Option.bind_some _ _).symm.trans H; rw [hy329]; with_reducible exact H2_) | (have H2_ := (Option.bind_some _ _).symm.trans H; with_reducible exact H2_) | with_reducible exact H | (rw [hy329]; exact H) | exact H
           have Ny329 := xm hy329
           clear hy329
           have H' := xm H
           clear H
           go_wp2_with (first | ((with_reducible refine gate_callee (f := 121) rfl ?_); refine goesL_ (some 26) rfl rfl Try.func121 (by kernel_rfl) rfl #[.slice A323_0 (rd_L1 l0 x15_1).length c323_0, .int .i64 x21_2] rfl (by (try simp only [List.map_toArray, List.map_cons, List.map_nil]); first | done | rfl | (simp only [List.length_drop, List.length_take]; rfl)) ?_; (with_reducible refine (slices_Contains_Lint_int.calls k2 _ _ (rd_L1 l0 x15_1) x21_2 false _ ?side1 ?side2 A12.out).mono ?_); (case side1 => repeat (first | exact (Kd.C_below HR323_0.out HB.out) | (with_reducible refine Kd.C_alloc ?_ _) | (with_reducible refine Kd.C_drewN ?_ _) | (with_reducible refine Kd.C_drew ?_))); (case side2 => exact HC323_0.out); rintro e w' ⟨rfl, ⟨nd, rfl⟩⟩; refine ⟨_, rfl, ?_⟩; (first | (rw [drewN_self wr]; generalize hq_ : World.drewN wr _ = wr; have n0_ : Aside0 (Kd.S k99 99 wr w.heap.size (fun k_ => some k_ ≠ (u325000 : Value).ownBlock ∧ k_ ≠ gb324) u323001 x323001_1) := ⟨by rw [← hq_]; exact (by (with_reducible repeat (first | apply Kd.S_alloc | apply Kd.S_drewN | apply Kd.S_drew)); exact HO_323001.out)⟩; have n1_ : Aside0 (Kd.R (Kd.int .i64) 3 wr w.heap.size (fun _ => True) u325000 x325000_2) := ⟨by rw [← hq_]; exact (by (with_reducible repeat (first | apply Kd.R_alloc | apply Kd.R_drewN | apply Kd.R_drew)); exact HO_325000.out)⟩; have n2_ : Aside0 (wr.heap[gb321]? = some (.cells #[.int .i64 0, .slice none 0 0] 44 (0, 0))) := ⟨by rw [← hq_]; exact (by (with_reducible repeat (first | refine xq ?_ _ | refine xr ?_ | refine xo ?_ _)); exact BK321.out)⟩; have n3_ : Aside0 (wr.heap[gb322]? = some (.cells #[.int .i64 a1, u323001] 44 (0, 0))) := ⟨by rw [← hq_]; exact (by (with_reducible repeat (first | refine xq ?_ _ | refine xr ?_ | refine xo ?_ _)); exact BK322.out)⟩; have n4_ : Aside0 (wr.heap[gb324]? = some (.cells #[u325000] 99 (0, 0))) := ⟨by rw [← hq_]; exact (by (with_reducible repeat (first | refine xq ?_ _ | refine xr ?_ | refine xo ?_ _)); exact BK324.out)⟩; have n5_ : Aside0 (Below w.heap.size w wr) := ⟨by rw [← hq_]; exact (by repeat (first | (with_reducible first | exact HB.out | apply xa | apply xn | apply xd | refine xt ?_ GE321.out | refine xt ?_ GE322.out | refine xt ?_ GE324.out) | exact HB.out))⟩; clear HO_323001 HO_325000 BK321 BK322 BK324 HB hq_; have HO_323001 := n0_; have HO_325000 := n1_; have BK321 := n2_; have BK322 := n3_; have BK324 := n4_; have HB := n5_; clear n0_ n1_ n2_ n3_ n4_ n5_) | (have n0_ : Aside0 (Kd.S k99 99 wr w.heap.size (fun k_ => some k_ ≠ (u325000 : Value).ownBlock ∧ k_ ≠ gb324) u323001 x323001_1) := ⟨(by (with_reducible repeat (first | apply Kd.S_alloc | apply Kd.S_drewN | apply Kd.S_drew)); exact HO_323001.out)⟩; have n1_ : Aside0 (Kd.R (Kd.int .i64) 3 wr w.heap.size (fun _ => True) u325000 x325000_2) := ⟨(by (with_reducible repeat (first | apply Kd.R_alloc | apply Kd.R_drewN | apply Kd.R_drew)); exact HO_325000.out)⟩; have n2_ : Aside0 (wr.heap[gb321]? = some (.cells #[.int .i64 0, .slice none 0 0] 44 (0, 0))) := ⟨(by (with_reducible repeat (first | refine xq ?_ _ | refine xr ?_ | refine xo ?_ _)); exact BK321.out)⟩; have n3_ : Aside0 (wr.heap[gb322]? = some (.cells #[.int .i64 a1, u323001] 44 (0, 0))) := ⟨(by (with_reducible repeat (first | refine xq ?_ _ | refine xr ?_ | refine xo ?_ _)); exact BK322.out)⟩; have n4_ : Aside0 (wr.heap[gb324]? = some (.cells #[u325000] 99 (0, 0))) := ⟨(by (with_reducible repeat (first | refine xq ?_ _ | refine xr ?_ | refine xo ?_ _)); exact BK324.out)⟩; have n5_ : Aside0 (Below w.heap.size w wr) := ⟨(by repeat (first | (with_reducible first | exact HB.out | apply xa | apply xn | apply xd | refine xt ?_ GE321.out | refine xt ?_ GE322.out | refine xt ?_ GE324.out) | exact HB.out))⟩; clear HO_323001 HO_325000 BK321 BK322 BK324 HB; have HO_323001 := n0_; have HO_325000 := n1_; have BK321 := n2_; have BK322 := n3_; have BK324 := n4_; have HB := n5_; clear n0_ n1_ n2_ n3_ n4_ n5_)); have hnb22 := NB324_321.out; have hnc22 := NB321_324.out; have hnb23 := NB324_322.out; have hnc23 := NB322_324.out; have hcz24_0 : wr.cell? ⟨gb324, 0, none⟩ = some (u325000) := (xc BK324.out 0).trans rfl; have hfz24_0 := xf BK324.out 0) | ((with_reducible refine gate_builtin (b := .append) (xs := #[.tmp 34, .tmp 36]) rfl ?_); at_builtin; refine Kd.R_append (Kd.int .i64) (w0 := w) w.heap.size rfl (.tmp 34) (.tmp 36) 48 3 (.int .i64 0) 8 rfl Try.underlying48 info3 rfl (by decide) (by omega) u325000 x325000_2 (wrap64 ((wrap64 ((wrap64 (x15_1 * 6)) + x21_2)) + 1)) [.int .i64 (wrap64 ((wrap64 ((wrap64 (x15_1 * 6)) + x21_2)) + 1))] (fun _ => True) (fun _ => False) rfl rfl ?aP (fun _ hk => hk.elim) ?aF ?aO ?aB ?aS ?aL ?_; (case aP => exact rfl); (case aB => exact (by repeat (first | (with_reducible first | exact HB.out | apply xa | apply xn | apply xd | refine xt ?_ GE321.out | refine xt ?_ GE322.out | refine xt ?_ GE324.out) | exact HB.out))); (case aF => exact (fun _ _ => trivial)); (case aO => exact (by (with_reducible repeat (first | apply Kd.R_alloc | apply Kd.R_drewN | apply Kd.R_drew)); exact HO_325000.out)); (case aS => exact (xz (by repeat (first | (with_reducible first | exact HB.out | apply xa | apply xn | apply xd | refine xt ?_ GE321.out | refine xt ?_ GE322.out | refine xt ?_ GE324.out) | exact HB.out)))); (case aL => have := LMc21.out; omega); intro v330 w25 ho hb hg hat; rw [← Ny329.out] at ho; have n0_ := xm (Kd.S_after (ok := (fun k_ => k_ ≠ gb324)) (by (with_reducible repeat (first | apply Kd.S_alloc | apply Kd.S_drewN | apply Kd.S_drew)); exact Kd.S_mono HO_323001.out (fun _ hk => ⟨hk.2, hk.1⟩)) hg hat); have n1_ := xm (blk_grown (g := gb321) (o := .cells #[.int .i64 0, .slice none 0 0] 44 (0, 0)) (by (with_reducible repeat (first | refine xq ?_ _ | refine xr ?_ | refine xo ?_ _)); exact BK321.out) hg (Kd.R_ne HO_325000.out BK321.out (by decide))); have n2_ := xm (blk_grown (g := gb322) (o := .cells #[.int .i64 a1, u323001] 44 (0, 0)) (by (with_reducible repeat (first | refine xq ?_ _ | refine xr ?_ | refine xo ?_ _)); exact BK322.out) hg (Kd.R_ne HO_325000.out BK322.out (by decide))); have n3_ := xm (blk_grown (g := gb324) (o := .cells #[u325000] 99 (0, 0)) (by (with_reducible repeat (first | refine xq ?_ _ | refine xr ?_ | refine xo ?_ _)); exact BK324.out) hg (Kd.R_ne HO_325000.out BK324.out (by decide))); have n4_ := xm (hb); have n5_ := xm (ho); clear HO_323001; clear BK321; clear BK322; clear BK324; clear HB; clear HO_325000; have HO_323001 := n0_; have BK321 := n1_; have BK322 := n2_; have BK324 := n3_; have HB := n4_; have HO331 := n5_; clear n0_ n1_ n2_ n3_ n4_ n5_; clear ho hb hg hat; obtain ⟨Ao26, co26, eo26⟩ := Kd.R_slice HO331.out; subst eo26; have hcz27_0 : w25.cell? ⟨gb324, 0, none⟩ = some (u325000) := (xc BK324.out 0).trans rfl; have hfz27_0 := xf BK324.out 0))
           go_roundg k2
           case measure => have := HK1.out; have := HK2.out; omega
           case rel => exact ⟨(wrap64 (x21_2 + 1)), (y329), (.slice Ao26 y329.length co26), (by first | rfl | (simp; done) | (simp [*]; done)), H', ⟨by have := HK1.out; have := HK2.out; omega⟩, ⟨by (with_reducible repeat (first | apply Kd.S_alloc | apply Kd.S_drewN | apply Kd.S_drew)); exact Kd.S_mono (Kd.S_far (p := ⟨gb324, 0, none⟩) (Kd.S_mono HO_323001.out (fun k_ hk => (⟨hk, hk.1⟩ : _ ∧ k_ ≠ gb324))) (fun _ hk => hk.2) (.slice Ao26 y329.length co26)) (fun _ hk => ⟨hk.1.2, hk.1.1⟩)⟩, ⟨by (with_reducible repeat (first | apply Kd.R_alloc | apply Kd.R_drewN | apply Kd.R_drew)); exact Kd.R_mono (Kd.R_far (p := ⟨gb324, 0, none⟩) (Kd.R_types HO331.out BK324.out (by decide)) (fun _ hk => hk.2) (.slice Ao26 y329.length co26)) (fun _ hk => trivial)⟩, ⟨by (with_reducible repeat (first | refine xq ?_ _ | refine xr ?_ | refine xo ?_ _)); refine blk_far ?_ NB321_324.out _; (with_reducible repeat (first | refine xq ?_ _ | refine xr ?_ | refine xo ?_ _)); exact BK321.out⟩, ⟨by (with_reducible repeat (first | refine xq ?_ _ | refine xr ?_ | refine xo ?_ _)); refine blk_far ?_ NB322_324.out _; (with_reducible repeat (first | refine xq ?_ _ | refine xr ?_ | refine xo ?_ _)); exact BK322.out⟩, ⟨by (with_reducible repeat (first | refine xq ?_ _ | refine xr ?_ | refine xo ?_ _)); refine blk_put (cs := #[u325000]) ?_ 0 _ rfl; (with_reducible repeat (first | refine xq ?_ _ | refine xr ?_ | refine xo ?_ _)); exact BK324.out⟩, ⟨by repeat (first | (with_reducible first | exact HB.out | apply xa | apply xn | apply xd | refine xt ?_ GE321.out | refine xt ?_ GE322.out | refine xt ?_ GE324.out) | exact HB.out)⟩⟩
          ·rw [if_neg c21] at H
           exact absurd H (by simp)
        ·rw [if_neg c11] at H
         have c11b0 : decide (x21_2 < a1) = false := decide_eq_false c11
         clear c11
         by_cases c28 : x323001_1.length < 5864062014805
         ·rw [if_pos c28] at H
          have LMc28 := xm c28
          clear c28
          obtain ⟨y332, hy332⟩ : ∃ y_ : List (S99), y_ = (x323001_1 ++ [(⟨x325000_2⟩ : S99)]) := ⟨_, rfl⟩
          replace H : (impl_start.l0 k2 a1 l0 (l0.length : Int) (wrap64 (x15_1 + 1)) a1 y332) = some (r1, r2) := by first | (rw [hy332]; with_reducible exact H) | (have H2_ := (Option.bind_some _ _).symm.trans H; rw [hy332]; with_reducible exact H2_) | (have H2_ := (Option.bind_some _ _).symm.trans H; with_reducible exact H2_) | with_reducible exact H | (rw [hy332]; exact H) | exact H
          have Ny332 := xm hy332
          clear hy332
          have H' := xm H
          clear H
          have hnb29 := NB322_321.out
          have hnc29 := NB321_322.out
          have hnb30 := NB322_324.out
          have hnc30 := NB324_322.out
          have hcz31_0 : wr.cell? ⟨gb322, 0, none⟩ = some (.int .i64 a1) := (xc BK322.out 0).trans rfl
          have hcz31_1 : wr.cell? ⟨gb322, 1, none⟩ = some (u323001) := (xc BK322.out 1).trans rfl
          have hfz31_0 := xf BK322.out 0
          have hfz31_1 := xf BK322.out 1
          have hnb32 := NB324_321.out
          have hnc32 := NB321_324.out
          have hcz33_0 : wr.cell? ⟨gb324, 0, none⟩ = some (u325000) := (xc BK324.out 0).trans rfl
          have hfz33_0 := xf BK324.out 0
          obtain ⟨Ao35, co35, eo35⟩ := Kd.R_slice HO_325000.out
          subst eo35
          go_wp2_with (first | ((with_reducible refine gate_builtin (b := .append) (xs := #[.tmp 41, .tmp 43]) rfl ?_); at_builtin; refine Kd.S_append k99 (w0 := w) w.heap.size rfl (.tmp 41) (.tmp 43) 42 99 (.agg #[(.slice none 0 0)]) 24 rfl Try.underlying42 info99 rfl (by decide) (by omega) u323001 x323001_1 (⟨x325000_2⟩ : S99) [.slice Ao35 x325000_2.length co35] (fun k_ => k_ ≠ gb324) (fun k_ => some k_ = (.slice Ao35 x325000_2.length co35 : Value).ownBlock) rfl rfl ?aP (fun k_ hk_ => ((Kd.R_mono (ok' := fun k_ => ((fun k_ => k_ ≠ gb324)) k_ ∧ some k_ ≠ (u323001 : Value).ownBlock) (Kd.R_types (Kd.R_apart' (HO_325000.out) (Kd.S_typed HO_323001.out) (by decide)) BK324.out (by decide)) (fun k_ hk => ⟨hk.2, hk.1.2⟩))).1 k_ hk_.symm) ?aF ?aO ?aB ?aS ?aL ?_; (case aP => exact k99_mkM _ _ _ (⟨x325000_2⟩ : S99) (Kd.R_mono (Kd.R_tight rfl (Kd.R_mono (ok' := fun k_ => ((fun k_ => k_ ≠ gb324)) k_ ∧ some k_ ≠ (u323001 : Value).ownBlock) (Kd.R_types (Kd.R_apart' (HO_325000.out) (Kd.S_typed HO_323001.out) (by decide)) BK324.out (by decide)) (fun k_ hk => ⟨hk.2, hk.1.2⟩))) (fun _ h_ => h_))); (case aB => exact (by repeat (first | (with_reducible first | exact HB.out | apply xa | apply xn | apply xd | refine xt ?_ GE321.out | refine xt ?_ GE322.out | refine xt ?_ GE324.out) | exact HB.out))); (case aF => exact (fun k_ hk => Kd.freshB (g := gb324) (o := .cells #[.slice Ao35 x325000_2.length co35] 99 (0, 0)) (by (with_reducible repeat (first | refine xq ?_ _ | refine xr ?_ | refine xo ?_ _)); exact BK324.out) k_ hk)); (case aO => exact (by (with_reducible repeat (first | apply Kd.S_alloc | apply Kd.S_drewN | apply Kd.S_drew)); exact Kd.S_mono HO_323001.out (fun k_ hk => ⟨hk.2, fun e_ => hk.1 e_⟩))); (case aS => exact (xz (by repeat (first | (with_reducible first | exact HB.out | apply xa | apply xn | apply xd | refine xt ?_ GE321.out | refine xt ?_ GE322.out | refine xt ?_ GE324.out) | exact HB.out)))); (case aL => have := LMc28.out; omega); intro v333 w34 ho hb hg hat; rw [← Ny332.out] at ho; have n0_ := xm (blk_grown (g := gb321) (o := .cells #[.int .i64 0, .slice none 0 0] 44 (0, 0)) (by (with_reducible repeat (first | refine xq ?_ _ | refine xr ?_ | refine xo ?_ _)); exact BK321.out) hg (Kd.S_ne HO_323001.out BK321.out (by decide))); have n1_ := xm (blk_grown (g := gb322) (o := .cells #[.int .i64 a1, u323001] 44 (0, 0)) (by (with_reducible repeat (first | refine xq ?_ _ | refine xr ?_ | refine xo ?_ _)); exact BK322.out) hg (Kd.S_ne HO_323001.out BK322.out (by decide))); have n2_ := xm (blk_grown (g := gb324) (o := .cells #[.slice Ao35 x325000_2.length co35] 99 (0, 0)) (by (with_reducible repeat (first | refine xq ?_ _ | refine xr ?_ | refine xo ?_ _)); exact BK324.out) hg (Kd.S_away HO_323001.out (fun _ hk => hk.2))); have n3_ := xm (hb); have n4_ := xm (ho); clear BK321; clear BK322; clear BK324; clear HB; clear HO_323001; clear HO_325000; have BK321 := n0_; have BK322 := n1_; have BK324 := n2_; have HB := n3_; have HO334 := n4_; clear n0_ n1_ n2_ n3_ n4_; clear ho hb hg hat; obtain ⟨Ao36, co36, eo36⟩ := Kd.S_slice HO334.out; subst eo36; have hcz37_0 : w34.cell? ⟨gb322, 0, none⟩ = some (.int .i64 a1) := (xc BK322.out 0).trans rfl; have hcz37_1 : w34.cell? ⟨gb322, 1, none⟩ = some (u323001) := (xc BK322.out 1).trans rfl; have hfz37_0 := xf BK322.out 0; have hfz37_1 := xf BK322.out 1))
          go_roundg k2
          case measure => have := HK1.out; have := HK2.out; omega
          case rel => exact ⟨(wrap64 (x15_1 + 1)), (y332), (.slice Ao36 y332.length co36), (by first | rfl | (simp; done) | (simp [*]; done)), H', ⟨by have := HK1.out; have := HK2.out; omega⟩, ⟨by (with_reducible repeat (first | apply Kd.S_alloc | apply Kd.S_drewN | apply Kd.S_drew)); exact Kd.S_mono (Kd.S_far (p := ⟨gb322, 1, none⟩) (Kd.S_types HO334.out BK322.out (by decide)) (fun _ hk => hk.2) (.slice Ao36 y332.length co36)) (fun _ hk => trivial)⟩, ⟨by (with_reducible repeat (first | refine xq ?_ _ | refine xr ?_ | refine xo ?_ _)); refine blk_far ?_ NB321_322.out _; (with_reducible repeat (first | refine xq ?_ _ | refine xr ?_ | refine xo ?_ _)); exact BK321.out⟩, ⟨by (with_reducible repeat (first | refine xq ?_ _ | refine xr ?_ | refine xo ?_ _)); refine blk_put (cs := #[.int .i64 a1, u323001]) ?_ 1 _ rfl; (with_reducible repeat (first | refine xq ?_ _ | refine xr ?_ | refine xo ?_ _)); exact BK322.out⟩, ⟨by repeat (first | (with_reducible first | exact HB.out | apply xa | apply xn | apply xd | refine xt ?_ GE321.out | refine xt ?_ GE322.out | refine xt ?_ GE324.out) | exact HB.out)⟩⟩
         ·rw [if_neg c28] at H
          exact absurd H (by simp)
     ·rw [if_neg c9] at H
      exact absurd H (by simp)
    ·rw [if_neg c8] at H
     exact absurd H (by simp)
   ·rw [if_neg c7] at H
    have c7b0 : decide (x15_1 < (l0.length : Int)) = false := decide_eq_false c7
    clear c7
    simp only [Option.some.injEq, Prod.mk.injEq] at H
    obtain ⟨rfl, rfl⟩ := H
    have hnb38 := NB322_321.out
    have hnc38 := NB321_322.out
    have hcz39_0 : wr.cell? ⟨gb322, 0, none⟩ = some (.int .i64 a1) := (xc BK322.out 0).trans rfl
    have hcz39_1 : wr.cell? ⟨gb322, 1, none⟩ = some (u323001) := (xc BK322.out 1).trans rfl
    have hfz39_0 := xf BK322.out 0
    have hfz39_1 := xf BK322.out 1
    have hcz40_0 : wr.cell? ⟨gb321, 0, none⟩ = some (.int .i64 0) := (xc BK321.out 0).trans rfl
    have hcz40_1 : wr.cell? ⟨gb321, 1, none⟩ = some (.slice none 0 0) := (xc BK321.out 1).trans rfl
    have hfz40_0 := xf BK321.out 0
    have hfz40_1 := xf BK321.out 1
    obtain ⟨Ao41, co41, eo41⟩ := Kd.S_slice HO_323001.out
    subst eo41
    go_wp2
    refine bodyPost_ret (results_cell_row rfl _ _ gb321 44 #[.int .i64 a1, .slice Ao41 x323001_1.length co41] (0, 0) _ rfl (by (with_reducible repeat (first | refine xq ?_ _ | refine xr ?_ | refine xo ?_ _)); refine blk_put (cs := #[.int .i64 a1, .slice none 0 0]) ?_ 1 _ rfl; (with_reducible repeat (first | refine xq ?_ _ | refine xr ?_ | refine xo ?_ _)); refine blk_put (cs := #[.int .i64 0, .slice none 0 0]) ?_ 0 _ rfl; (with_reducible repeat (first | refine xq ?_ _ | refine xr ?_ | refine xo ?_ _)); exact BK321.out) Try.underlying44 rfl (by kernel_rfl)) rfl ?_
    exact ⟨_, by first | rfl | (simp [errW_none, errW_some] <;> rfl) | (simp [*, errW_none, errW_some] <;> rfl), by (with_reducible repeat (first | apply Kd.S_alloc | apply Kd.S_drewN | apply Kd.S_drew)); exact Kd.S_mono (Kd.S_far (p := ⟨gb321, 1, none⟩) (Kd.S_far (p := ⟨gb321, 0, none⟩) (Kd.S_types HO_323001.out BK321.out (by decide)) (fun _ hk => hk.2) (.int .i64 a1)) (fun _ hk => hk.2) (.slice Ao41 x323001_1.length co41)) (fun _ hk => trivial), by repeat (first | (with_reducible first | exact HB.out | apply xa | apply xn | apply xd | refine xt ?_ GE321.out | refine xt ?_ GE322.out) | exact HB.out)⟩

end Go.Proofs.Ytfbomhedhfkcpaa.G
