/- Written by a program of this claim's own, out of the translation: functions of the program as plain functions, and that the calls answer as these. No conditions. -/
import Derived.Test.YtpbpglbldgpckaaG0
import Derived.Test.YtpbpglbldgpckaaG4
import Derived.Test.YtpbpglbldgpckaaG57
namespace Go.Proofs.Ytpbpglbldgpckaa.G
open Go.RowKit Go.Proofs.Ytpbpglbldgpckaa.X Go.Proofs.YtpbpglbldgpckaaW.PrintWords Go.Proofs.YtpbpglbldgpckaaW.PrintLast Go.Proofs.YtpbpglbldgpckaaW.PrintMore
attribute [local go_sem] max2_int min2_int max_two min_two max_three min_three max_four min_four   -- for this text's walks alone
set_option linter.unusedVariables false
set_option linter.unusedSimpArgs false

/-! ### spec_ReadsFrom: function 63 -/
mutual
def spec_ReadsFrom.l0 : Nat → List (S111) → List (S151) → List (S111) → Int → Int → Option ((List (S151)) × List Int × Bool)
 | 0, _, _, _, _, _ => none
 | k + 1, x0, x5, x13, x14, x15 => if x15 < x14 then (if 0 ≤ x15 then (if x15 < (x13.length : Int) then (if ((rd_T111 x13 x15).f1) = 1 then ((spec_l13Last.f k x0 x15 ((rd_T111 x13 x15).f2)).bind fun t897 => (if x5.length < 8796093022208 then (spec_ReadsFrom.l0 k x0 (x5 ++ [(⟨x15, t897⟩ : S151)]) x13 x14 (wrap64 (x15 + 1))) else (none))) else (spec_ReadsFrom.l0 k x0 x5 x13 x14 (wrap64 (x15 + 1)))) else (none)) else (none)) else (spec_ReadsFrom.l1 k x0 x5 ([] : List Int) 0)
def spec_ReadsFrom.l1 : Nat → List (S111) → List (S151) → List Int → Int → Option ((List (S151)) × List Int × Bool)
 | 0, _, _, _, _ => none
 | k + 1, x0, x5, x8, x9 => if x9 < 4 then ((spec_l13Last.f k x0 (x0.length : Int) x9).bind fun t901 => (if x8.length < 17592186044416 then (spec_ReadsFrom.l1 k x0 x5 (x8 ++ [t901]) (wrap64 (x9 + 1))) else (none))) else (some (x5, x8, true))
end
def spec_ReadsFrom.f (k : Nat) (l0 : List (S111)) : Option ((List (S151)) × List Int × Bool) := (spec_GoodSteps.f k l0).bind fun t894 => (if t894 = true then (spec_ReadsFrom.l0 k l0 ([] : List (S151)) l0 (l0.length : Int) 0) else (some (([] : List (S151)), ([] : List Int), false)))
theorem spec_ReadsFrom.mono_l : ∀ k, (∀ y0 y1 y2 y3 y4, LeO (spec_ReadsFrom.l0 k y0 y1 y2 y3 y4) (spec_ReadsFrom.l0 (k + 1) y0 y1 y2 y3 y4)) ∧ (∀ y0 y1 y2 y3, LeO (spec_ReadsFrom.l1 k y0 y1 y2 y3) (spec_ReadsFrom.l1 (k + 1) y0 y1 y2 y3))
 | 0 => ⟨fun _ _ _ _ _ r h => by simp [spec_ReadsFrom.l0] at h, fun _ _ _ _ r h => by simp [spec_ReadsFrom.l1] at h⟩
 | k + 1 => by
  obtain ⟨ih0, ih1⟩ := spec_ReadsFrom.mono_l k
  refine ⟨?_, ?_⟩
  ·intro y0 y1 y2 y3 y4
   unfold spec_ReadsFrom.l0
   repeat' first
   | (with_reducible exact ih0 _ _ _ _ _)
   | (with_reducible exact ih1 _ _ _ _)
   | (with_reducible exact spec_GoodSteps.mono _ _)
   | (with_reducible exact spec_l13Last.mono _ _ _ _)
   | (with_reducible exact LeO.refl _)
   | (with_reducible exact LeO.none _)
   | (with_reducible refine LeO.ite ?_ ?_)
   | (with_reducible refine LeO.bind ?_ (fun _ => ?_))
   | exact ih0 _ _ _ _ _
   | exact ih1 _ _ _ _
   | exact spec_GoodSteps.mono _ _
   | exact spec_l13Last.mono _ _ _ _
   | exact LeO.none _
   | refine LeO.ite ?_ ?_
   | refine LeO.bind ?_ (fun _ => ?_)
  ·intro y0 y1 y2 y3
   unfold spec_ReadsFrom.l1
   repeat' first
   | (with_reducible exact ih0 _ _ _ _ _)
   | (with_reducible exact ih1 _ _ _ _)
   | (with_reducible exact spec_GoodSteps.mono _ _)
   | (with_reducible exact spec_l13Last.mono _ _ _ _)
   | (with_reducible exact LeO.refl _)
   | (with_reducible exact LeO.none _)
   | (with_reducible refine LeO.ite ?_ ?_)
   | (with_reducible refine LeO.bind ?_ (fun _ => ?_))
   | exact ih0 _ _ _ _ _
   | exact ih1 _ _ _ _
   | exact spec_GoodSteps.mono _ _
   | exact spec_l13Last.mono _ _ _ _
   | exact LeO.none _
   | refine LeO.ite ?_ ?_
   | refine LeO.bind ?_ (fun _ => ?_)
theorem spec_ReadsFrom.mono : ∀ a0 k, LeO (spec_ReadsFrom.f k a0) (spec_ReadsFrom.f (k + 1) a0) := by
 intro a0 k
 obtain ⟨ih0, ih1⟩ := spec_ReadsFrom.mono_l k
 unfold spec_ReadsFrom.f
 repeat' first
   | (with_reducible exact ih0 _ _ _ _ _)
   | (with_reducible exact ih1 _ _ _ _)
   | (with_reducible exact spec_GoodSteps.mono _ _)
   | (with_reducible exact spec_l13Last.mono _ _ _ _)
   | (with_reducible exact LeO.refl _)
   | (with_reducible exact LeO.none _)
   | (with_reducible refine LeO.ite ?_ ?_)
   | (with_reducible refine LeO.bind ?_ (fun _ => ?_))
   | exact ih0 _ _ _ _ _
   | exact ih1 _ _ _ _
   | exact spec_GoodSteps.mono _ _
   | exact spec_l13Last.mono _ _ _ _
   | exact LeO.none _
   | refine LeO.ite ?_ ?_
   | refine LeO.bind ?_ (fun _ => ?_)
set_option maxHeartbeats 8000000 in
set_option maxRecDepth 100000 in
theorem spec_ReadsFrom.calls (k : Nat) (A0 : Option Addr) (c0 : Nat) (l0 : List (S111)) (r1 : List (S151)) (r2 : List Int) (r3 : Bool) (w : World) (hr0 : Kd.C k111 w A0 l0.length l0) (hc0 : l0.length ≤ c0) (h : spec_ReadsFrom.f k l0 = some (r1, r2, r3)) :
  Calls Try.prog 63 #[.slice A0 l0.length c0] w fun e w' => ∃ v0_ v1_ : Value, e = .returned (.tuple #[v0_, v1_, .bool r3]) ∧ Kd.R k151 151 w' w.heap.size (fun _ => True) v0_ r1 ∧ Kd.R (Kd.int .i64) 3 w' w.heap.size (fun _ => True) v1_ r2 ∧ Below w.heap.size w w' := by
 have hu111 := Try.underlying111
 have hu151 := Try.underlying151
 have HR0 := xm hr0
 have HC0 := xm hc0
 clear hr0 hc0
 have HB := xm (Below.refl w.heap.size w)
 have H : ((spec_GoodSteps.f k l0).bind fun t894 => (if t894 = true then (spec_ReadsFrom.l0 k l0 ([] : List (S151)) l0 (l0.length : Int) 0) else (some (([] : List (S151)), ([] : List Int), false)))) = some (r1, r2, r3) := h
 clear h
 replace H := Option.bind_eq_some_iff.mp H
 obtain ⟨t894, A20, H⟩ := H
 replace H : (if t894 = true then (spec_ReadsFrom.l0 k l0 ([] : List (S151)) l0 (l0.length : Int) 0) else (some (([] : List (S151)), ([] : List Int), false))) = some (r1, r2, r3) := H
 have A2 := xm A20
 clear A20
 by_cases c3 : t894 = true
 ·subst c3
  have H1 : (spec_ReadsFrom.l0 k l0 ([] : List (S151)) l0 (l0.length : Int) 0) = some (r1, r2, r3) := by first | (with_reducible rfl) | (rw [if_pos rfl] at H; exact H)
  clear H
  have H := H1
  clear H1
  have H' := xm H
  clear H
  go_enter Try.func63, Try.ntmps63
  go_wp2_with (first | ((with_reducible refine gate_callee (f := 82) rfl ?_); refine goesL_ (some 11) rfl rfl Try.func82 (by kernel_rfl) rfl #[.slice A0 l0.length c0] rfl (by (try simp only [List.map_toArray, List.map_cons, List.map_nil]); first | done | rfl | (simp only [List.length_drop, List.length_take]; rfl)) ?_; (with_reducible refine (spec_GoodSteps.calls k _ _ l0 true _ ?side1 ?side2 A2.out).mono ?_); (case side1 => repeat (first | exact HR0.out | (with_reducible refine Kd.C_alloc ?_ _) | (with_reducible refine Kd.C_drewN ?_ _) | (with_reducible refine Kd.C_drew ?_))); (case side2 => exact HC0.out); rintro e w4 ⟨rfl, hb⟩; refine ⟨_, rfl, ?_⟩; have n0_ := xm (below_step (by repeat (first | (with_reducible first | exact HB.out | apply xa | apply xn | apply xd) | exact HB.out)) hb); clear HB; have HB := n0_; clear n0_; (try clear hb); (try clear hb2); (try clear hk); (try clear hi)))
  go_loopg [5, 15] k (fun kq v5 v15 w' => ∃ (x5_1 : List (S151)) (x15_1 : Int), v15 = .int .i64 x15_1 ∧ Aside0 (spec_ReadsFrom.l0 kq l0 x5_1 l0 (l0.length : Int) x15_1 = some (r1, r2, r3)) ∧ Aside0 (kq ≤ k) ∧ Aside0 (Kd.R k151 151 w' w.heap.size (fun _ => True) v5 x5_1) ∧ Aside0 (Below w.heap.size w w'))
  case atStart => exact ⟨(([] : List (S151))), (0), (by first | rfl | (simp; done) | (simp [*]; done)), H', ⟨Nat.le_refl _⟩, ⟨by first | exact Kd.R_nil _ _ _ _ _ | exact Kd.N_nil _ _ _ _ _ | exact Kd.V_nil _ _ _ _ _ | exact Kd.Q_nil _ _ _ _ _ | exact Kd.S_nil _ _ _ _ _⟩, ⟨by repeat (first | (with_reducible first | exact HB.out | apply xa | apply xn | apply xd) | exact HB.out)⟩⟩
  case round =>
   clear H'
   try clear p2
   try clear c3
   obtain ⟨x5_1, x15_1, rfl, HA, HK1, HO_5, HB⟩ := hrel
   cases gk with
   | zero => exact absurd HA.out (by simp [spec_ReadsFrom.l0])
   | succ k1 =>
    have H := HA.out
    clear HA
    simp only [spec_ReadsFrom.l0] at H
    by_cases c5 : x15_1 < (l0.length : Int)
    ·rw [if_pos c5] at H
     have c5b0 : decide (x15_1 < (l0.length : Int)) = true := decide_eq_true c5
     clear c5
     by_cases c6 : 0 ≤ x15_1
     ·rw [if_pos c6] at H
      have c6b0 : decide (0 ≤ x15_1) = true := decide_eq_true c6
      clear c6
      by_cases c7 : x15_1 < (l0.length : Int)
      ·rw [if_pos c7] at H
       have c7b0 : decide (x15_1 < (l0.length : Int)) = true := decide_eq_true c7
       clear c7
       by_cases c8 : ((rd_T111 l0 x15_1).f1) = 1
       ·rw [if_pos c8] at H
        have c8b0 : (((rd_T111 l0 x15_1).f1) == 1) = true := beq_iff_eq.mpr c8
        have c8b1 : (((rd_T111 l0 x15_1).f1) != 1) = false := bne_eq_false_iff_eq.mpr c8
        clear c8
        replace H := Option.bind_eq_some_iff.mp H
        obtain ⟨t897, A90, H⟩ := H
        replace H : (if x5_1.length < 8796093022208 then (spec_ReadsFrom.l0 k1 l0 (x5_1 ++ [(⟨x15_1, t897⟩ : S151)]) l0 (l0.length : Int) (wrap64 (x15_1 + 1))) else (none)) = some (r1, r2, r3) := H
        have A9 := xm A90
        clear A90
        by_cases c10 : x5_1.length < 8796093022208
        ·rw [if_pos c10] at H
         have LMc10 := xm c10
         clear c10
         obtain ⟨y898, hy898⟩ : ∃ y_ : List (S151), y_ = (x5_1 ++ [(⟨x15_1, t897⟩ : S151)]) := ⟨_, rfl⟩
         replace H : (spec_ReadsFrom.l0 k1 l0 y898 l0 (l0.length : Int) (wrap64 (x15_1 + 1))) = some (r1, r2, r3) := by first | (rw [hy898]; with_reducible exact H) | (have H2_ := (Option.bind_some _ _).symm.trans H; rw [hy898]; with_reducible exact H2_) | (have H2_ := (Option.bind_some _ _).symm.trans H; with_reducible exact H2_) | with_reducible exact H | (rw [hy898]; exact H) | exact H
         have Ny898 := xm hy898
         clear hy898
         have H' := xm H
         clear H
         have p895 : 0 ≤ (x15_1 : Int) := of_decide_eq_true (by first | (with_reducible assumption) | assumption)
         have q895 : x15_1 < (l0.length : Int) := of_decide_eq_true (by first | (with_reducible assumption) | assumption)
         obtain ⟨ad895, e895, hx895_0, hx895_1, hx895_2⟩ := at_T111 HR0.out x15_1 p895 q895
         cases e895
         replace hx895_0 := (HB.out.cell (World.block_lt_of_cell? w _ hx895_0)).trans hx895_0
         replace hx895_1 := (HB.out.cell (World.block_lt_of_cell? w _ hx895_1)).trans hx895_1
         replace hx895_2 := (HB.out.cell (World.block_lt_of_cell? w _ hx895_2)).trans hx895_2
         replace p895 := eq_true p895
         replace q895 := eq_true q895
         go_wp2_with (first | ((with_reducible refine gate_dst (N := 7) rfl ?_); refine box_event ?hg (N := 7) ?hd (cs := #[.int .i64 0, .int .i64 0, .int .i64 0]) (t := 111) ?hr ?_; (case hd => rfl); (case hg => rfl); (case hr => first | (go_simp; done) | (go_simp; rfl)); intro gb896 hg w11 hbox hb; have n0_ := xm (Kd.R_below (by (with_reducible repeat (first | apply Kd.R_alloc | apply Kd.R_drewN | apply Kd.R_drew)); exact HO_5.out) hb); have n1_ := xm (below_step (by repeat (first | (with_reducible first | exact HB.out | apply xa | apply xn | apply xd) | exact HB.out)) hb); have n2_ := xm (hbox); have n3_ := xm ((by rw [hg]; exact (xz (by repeat (first | (with_reducible first | exact HB.out | apply xa | apply xn | apply xd) | exact HB.out))) : w.heap.size ≤ gb896)); have n4_ := xm ((by rw [hg]; exact (xz (by repeat (first | (with_reducible first | exact HB.out | apply xa | apply xn | apply xd) | exact HB.out))) : w.heap.size ≤ gb896)); clear HO_5; clear HB; have HO_5 := n0_; have HB := n1_; have BK896 := n2_; have GW896 := n3_; have GE896 := n4_; clear n0_ n1_ n2_ n3_ n4_; clear hb hbox hg; have hcz12_0 : w11.cell? ⟨gb896, 0, none⟩ = some (.int .i64 0) := (xc BK896.out 0).trans rfl; have hcz12_1 : w11.cell? ⟨gb896, 1, none⟩ = some (.int .i64 0) := (xc BK896.out 1).trans rfl; have hcz12_2 : w11.cell? ⟨gb896, 2, none⟩ = some (.int .i64 0) := (xc BK896.out 2).trans rfl; have hfz12_0 := xf BK896.out 0; have hfz12_1 := xf BK896.out 1; have hfz12_2 := xf BK896.out 2) | ((with_reducible refine gate_callee (f := 126) rfl ?_); refine goesL_ (some 29) rfl rfl Try.func126 (by kernel_rfl) rfl #[.slice (some ad895) l0.length c0, .int .i64 x15_1, .int .i64 ((rd_T111 l0 x15_1).f2)] rfl (by (try simp only [List.map_toArray, List.map_cons, List.map_nil]); first | done | rfl | (simp only [List.length_drop, List.length_take]; rfl)) ?_; (with_reducible refine (spec_l13Last.calls k1 _ _ l0 x15_1 ((rd_T111 l0 x15_1).f2) t897 _ ?side1 ?side2 A9.out).mono ?_); (case side1 => exact Kd.C_below HR0.out (by repeat (first | (with_reducible first | exact HB.out | apply xa | apply xn | apply xd | refine xt ?_ GE896.out) | exact HB.out))); (case side2 => exact HC0.out); rintro e w' ⟨rfl, ⟨nd, rfl⟩⟩; refine ⟨_, rfl, ?_⟩) | ((with_reducible refine gate_builtin (b := .append) (xs := #[.tmp 23, .tmp 31]) rfl ?_); at_builtin; refine Kd.R_append k151 (w0 := w) w.heap.size rfl (.tmp 23) (.tmp 31) 91 151 (.agg #[(.int .i64 0), (.int .i64 0)]) 16 rfl Try.underlying91 info151 rfl (by decide) (by omega) u5 x5_1 (⟨x15_1, t897⟩ : S151) [.int .i64 x15_1, .int .i64 t897] (fun _ => True) (fun _ => False) rfl (by first | (go_simp; done) | (go_simp; rfl)) ?aP (fun _ hk => hk.elim) ?aF ?aO ?aB ?aS ?aL ?_; (case aP => exact k151_mkM _ _ _ (⟨x15_1, t897⟩ : S151)); (case aB => exact (by repeat (first | (with_reducible first | exact HB.out | apply xa | apply xn | apply xd | refine xt ?_ GE896.out) | exact HB.out))); (case aF => exact (fun _ _ => trivial)); (case aO => exact (by (with_reducible repeat (first | apply Kd.R_alloc | apply Kd.R_drewN | apply Kd.R_drew)); exact Kd.R_mono (Kd.R_far (p := ⟨gb896, 2, none⟩) (Kd.R_far (p := ⟨gb896, 1, none⟩) (Kd.R_far (p := ⟨gb896, 0, none⟩) (Kd.R_types HO_5.out BK896.out (by decide)) (fun _ hk => hk.2) (.int .i64 ((rd_T111 l0 x15_1).f0))) (fun _ hk => hk.2) (.int .i64 ((rd_T111 l0 x15_1).f1))) (fun _ hk => hk.2) (.int .i64 ((rd_T111 l0 x15_1).f2))) (fun _ hk => trivial))); (case aS => exact (xz (by repeat (first | (with_reducible first | exact HB.out | apply xa | apply xn | apply xd | refine xt ?_ GE896.out) | exact HB.out)))); (case aL => have := LMc10.out; omega); intro v899 w13 ho hb hg hat; rw [← Ny898.out] at ho; have n0_ := xm (blk_grown (g := gb896) (o := .cells #[.int .i64 ((rd_T111 l0 x15_1).f0), .int .i64 ((rd_T111 l0 x15_1).f1), .int .i64 ((rd_T111 l0 x15_1).f2)] 111 (0, 0)) (by (with_reducible repeat (first | refine xq ?_ _ | refine xr ?_ | refine xo ?_ _)); refine blk_put (cs := #[.int .i64 ((rd_T111 l0 x15_1).f0), .int .i64 ((rd_T111 l0 x15_1).f1), .int .i64 0]) ?_ 2 _ rfl; (with_reducible repeat (first | refine xq ?_ _ | refine xr ?_ | refine xo ?_ _)); refine blk_put (cs := #[.int .i64 ((rd_T111 l0 x15_1).f0), .int .i64 0, .int .i64 0]) ?_ 1 _ rfl; (with_reducible repeat (first | refine xq ?_ _ | refine xr ?_ | refine xo ?_ _)); refine blk_put (cs := #[.int .i64 0, .int .i64 0, .int .i64 0]) ?_ 0 _ rfl; (with_reducible repeat (first | refine xq ?_ _ | refine xr ?_ | refine xo ?_ _)); exact BK896.out) hg (Kd.R_ne HO_5.out BK896.out (by decide))); have n1_ := xm (hb); have n2_ := xm (ho); clear BK896; clear HB; clear HO_5; have BK896 := n0_; have HB := n1_; have HO900 := n2_; clear n0_ n1_ n2_; clear ho hb hg hat))
         go_roundg k1
         case measure => have := HK1.out; omega
         case rel => exact ⟨(y898), (wrap64 (x15_1 + 1)), (by first | rfl | (simp; done) | (simp [*]; done)), H', ⟨by have := HK1.out; omega⟩, ⟨by (with_reducible repeat (first | apply Kd.R_alloc | apply Kd.R_drewN | apply Kd.R_drew)); exact HO900.out⟩, ⟨by repeat (first | (with_reducible first | exact HB.out | apply xa | apply xn | apply xd | refine xt ?_ GE896.out) | exact HB.out)⟩⟩
        ·rw [if_neg c10] at H
         exact absurd H (by simp)
       ·rw [if_neg c8] at H
        have c8b0 : (((rd_T111 l0 x15_1).f1) == 1) = false := beq_eq_false_iff_ne.mpr c8
        have c8b1 : (((rd_T111 l0 x15_1).f1) != 1) = true := bne_iff_ne.mpr c8
        have H' := xm H
        clear H
        have p895 : 0 ≤ (x15_1 : Int) := of_decide_eq_true (by first | (with_reducible assumption) | assumption)
        have q895 : x15_1 < (l0.length : Int) := of_decide_eq_true (by first | (with_reducible assumption) | assumption)
        obtain ⟨ad895, e895, hx895_0, hx895_1, hx895_2⟩ := at_T111 HR0.out x15_1 p895 q895
        cases e895
        replace hx895_0 := (HB.out.cell (World.block_lt_of_cell? w _ hx895_0)).trans hx895_0
        replace hx895_1 := (HB.out.cell (World.block_lt_of_cell? w _ hx895_1)).trans hx895_1
        replace hx895_2 := (HB.out.cell (World.block_lt_of_cell? w _ hx895_2)).trans hx895_2
        replace p895 := eq_true p895
        replace q895 := eq_true q895
        go_wp2_with (first | ((with_reducible refine gate_dst (N := 7) rfl ?_); refine box_event ?hg (N := 7) ?hd (cs := #[.int .i64 0, .int .i64 0, .int .i64 0]) (t := 111) ?hr ?_; (case hd => rfl); (case hg => rfl); (case hr => first | (go_simp; done) | (go_simp; rfl)); intro gb896 hg w14 hbox hb; have n0_ := xm (Kd.R_below (by (with_reducible repeat (first | apply Kd.R_alloc | apply Kd.R_drewN | apply Kd.R_drew)); exact HO_5.out) hb); have n1_ := xm (below_step (by repeat (first | (with_reducible first | exact HB.out | apply xa | apply xn | apply xd) | exact HB.out)) hb); have n2_ := xm (hbox); have n3_ := xm ((by rw [hg]; exact (xz (by repeat (first | (with_reducible first | exact HB.out | apply xa | apply xn | apply xd) | exact HB.out))) : w.heap.size ≤ gb896)); have n4_ := xm ((by rw [hg]; exact (xz (by repeat (first | (with_reducible first | exact HB.out | apply xa | apply xn | apply xd) | exact HB.out))) : w.heap.size ≤ gb896)); clear HO_5; clear HB; have HO_5 := n0_; have HB := n1_; have BK896 := n2_; have GW896 := n3_; have GE896 := n4_; clear n0_ n1_ n2_ n3_ n4_; clear hb hbox hg; have hcz15_0 : w14.cell? ⟨gb896, 0, none⟩ = some (.int .i64 0) := (xc BK896.out 0).trans rfl; have hcz15_1 : w14.cell? ⟨gb896, 1, none⟩ = some (.int .i64 0) := (xc BK896.out 1).trans rfl; have hcz15_2 : w14.cell? ⟨gb896, 2, none⟩ = some (.int .i64 0) := (xc BK896.out 2).trans rfl; have hfz15_0 := xf BK896.out 0; have hfz15_1 := xf BK896.out 1; have hfz15_2 := xf BK896.out 2))
        go_roundg k1
        case measure => have := HK1.out; omega
        case rel => exact ⟨(x5_1), (wrap64 (x15_1 + 1)), (by first | rfl | (simp; done) | (simp [*]; done)), H', ⟨by have := HK1.out; omega⟩, ⟨by (with_reducible repeat (first | apply Kd.R_alloc | apply Kd.R_drewN | apply Kd.R_drew)); exact Kd.R_mono (Kd.R_far (p := ⟨gb896, 2, none⟩) (Kd.R_far (p := ⟨gb896, 1, none⟩) (Kd.R_far (p := ⟨gb896, 0, none⟩) (Kd.R_types HO_5.out BK896.out (by decide)) (fun _ hk => hk.2) (.int .i64 ((rd_T111 l0 x15_1).f0))) (fun _ hk => hk.2) (.int .i64 ((rd_T111 l0 x15_1).f1))) (fun _ hk => hk.2) (.int .i64 ((rd_T111 l0 x15_1).f2))) (fun _ hk => trivial)⟩, ⟨by repeat (first | (with_reducible first | exact HB.out | apply xa | apply xn | apply xd | refine xt ?_ GE896.out) | exact HB.out)⟩⟩
      ·rw [if_neg c7] at H
       exact absurd H (by simp)
     ·rw [if_neg c6] at H
      exact absurd H (by simp)
    ·rw [if_neg c5] at H
     have c5b0 : decide (x15_1 < (l0.length : Int)) = false := decide_eq_false c5
     clear c5
     have H' := xm H
     clear H
     go_wp2
     go_loopg [8, 9] k1 (fun kq v8 v9 w' => ∃ (x8_2 : List Int) (x9_2 : Int), v9 = .int .i64 x9_2 ∧ Aside0 (spec_ReadsFrom.l1 kq l0 x5_1 x8_2 x9_2 = some (r1, r2, r3)) ∧ Aside0 (kq ≤ k1) ∧ Aside0 (Kd.R k151 151 w' w.heap.size (fun _ => True) u5 x5_1) ∧ Aside0 (Kd.R (Kd.int .i64) 3 w' w.heap.size (fun _ => True) v8 x8_2) ∧ Aside0 (Below w.heap.size w w'))
     case atStart => exact ⟨(([] : List Int)), (0), (by first | rfl | (simp; done) | (simp [*]; done)), H', ⟨Nat.le_refl _⟩, ⟨by (with_reducible repeat (first | apply Kd.R_alloc | apply Kd.R_drewN | apply Kd.R_drew)); exact HO_5.out⟩, ⟨by first | exact Kd.R_nil _ _ _ _ _ | exact Kd.N_nil _ _ _ _ _ | exact Kd.V_nil _ _ _ _ _ | exact Kd.Q_nil _ _ _ _ _ | exact Kd.S_nil _ _ _ _ _⟩, ⟨by repeat (first | (with_reducible first | exact HB.out | apply xa | apply xn | apply xd) | exact HB.out)⟩⟩
     case round =>
      clear H'
      try clear c1
      try clear p2
      try clear c3
      try clear c5
      try clear c5b0
      try clear c6
      try clear c6b0
      try clear p6
      try clear c7
      try clear c7b0
      try clear c8
      try clear c8b0
      try clear c8b1
      try clear p8
      try clear q8
      try clear hx8
      try clear c10
      try clear c12
      try clear hcz12_0
      try clear hcz12_1
      try clear hcz12_2
      try clear hcz15_0
      try clear hcz15_1
      try clear hcz15_2
      try clear hfz12_0
      try clear hfz12_1
      try clear hfz12_2
      try clear hfz15_0
      try clear hfz15_1
      try clear hfz15_2
      try clear hx895_0
      try clear hx895_1
      try clear hx895_2
      try clear p2
      try clear p895
      try clear q895
      obtain ⟨x8_2, x9_2, rfl, HA, HK2, HO_5, HO_8, HB⟩ := hrel
      cases gk with
      | zero => exact absurd HA.out (by simp [spec_ReadsFrom.l1])
      | succ k2 =>
       have H := HA.out
       clear HA
       simp only [spec_ReadsFrom.l1] at H
       by_cases c16 : x9_2 < 4
       ·rw [if_pos c16] at H
        have c16b0 : decide (x9_2 < 4) = true := decide_eq_true c16
        clear c16
        replace H := Option.bind_eq_some_iff.mp H
        obtain ⟨t901, A170, H⟩ := H
        replace H : (if x8_2.length < 17592186044416 then (spec_ReadsFrom.l1 k2 l0 x5_1 (x8_2 ++ [t901]) (wrap64 (x9_2 + 1))) else (none)) = some (r1, r2, r3) := H
        have A17 := xm A170
        clear A170
        by_cases c18 : x8_2.length < 17592186044416
        ·rw [if_pos c18] at H
         have LMc18 := xm c18
         clear c18
         obtain ⟨y902, hy902⟩ : ∃ y_ : List Int, y_ = (x8_2 ++ [t901]) := ⟨_, rfl⟩
         replace H : (spec_ReadsFrom.l1 k2 l0 x5_1 y902 (wrap64 (x9_2 + 1))) = some (r1, r2, r3) := by first | (rw [hy902]; with_reducible exact H) | (have H2_ := (Option.bind_some _ _).symm.trans H; rw [hy902]; with_reducible exact H2_) | (have H2_ := (Option.bind_some _ _).symm.trans H; with_reducible exact H2_) | with_reducible exact H | (rw [hy902]; exact H) | exact H
         have Ny902 := xm hy902
         clear hy902
         have H' := xm H
         clear H
         go_wp2_with (first | ((with_reducible refine gate_callee (f := 126) rfl ?_); refine goesL_ (some 43) rfl rfl Try.func126 (by kernel_rfl) rfl #[.slice A0 l0.length c0, .int .i64 (l0.length : Int), .int .i64 x9_2] rfl (by (try simp only [List.map_toArray, List.map_cons, List.map_nil]); first | done | rfl | (simp only [List.length_drop, List.length_take]; rfl)) ?_; (with_reducible refine (spec_l13Last.calls k2 _ _ l0 (l0.length : Int) x9_2 t901 _ ?side1 ?side2 A17.out).mono ?_); (case side1 => repeat (first | exact (Kd.C_below HR0.out HB.out) | (with_reducible refine Kd.C_alloc ?_ _) | (with_reducible refine Kd.C_drewN ?_ _) | (with_reducible refine Kd.C_drew ?_))); (case side2 => exact HC0.out); rintro e w' ⟨rfl, ⟨nd, rfl⟩⟩; refine ⟨_, rfl, ?_⟩) | ((with_reducible refine gate_builtin (b := .append) (xs := #[.tmp 38, .tmp 44]) rfl ?_); at_builtin; refine Kd.R_append (Kd.int .i64) (w0 := w) w.heap.size rfl (.tmp 38) (.tmp 44) 31 3 (.int .i64 0) 8 rfl Try.underlying31 info3 rfl (by decide) (by omega) u8 x8_2 t901 [.int .i64 t901] (fun _ => True) (fun _ => False) rfl rfl ?aP (fun _ hk => hk.elim) ?aF ?aO ?aB ?aS ?aL ?_; (case aP => exact rfl); (case aB => exact (by repeat (first | (with_reducible first | exact HB.out | apply xa | apply xn | apply xd) | exact HB.out))); (case aF => exact (fun _ _ => trivial)); (case aO => exact (by (with_reducible repeat (first | apply Kd.R_alloc | apply Kd.R_drewN | apply Kd.R_drew)); exact HO_8.out)); (case aS => exact (xz (by repeat (first | (with_reducible first | exact HB.out | apply xa | apply xn | apply xd) | exact HB.out)))); (case aL => have := LMc18.out; omega); intro v903 w19 ho hb hg hat; rw [← Ny902.out] at ho; have n0_ := xm (Kd.R_over' (by (with_reducible repeat (first | apply Kd.R_alloc | apply Kd.R_drewN | apply Kd.R_drew)); exact HO_5.out) (Kd.R_typed (by (with_reducible repeat (first | apply Kd.R_alloc | apply Kd.R_drewN | apply Kd.R_drew)); exact HO_8.out)) (by decide) hg); have n1_ := xm (hb); have n2_ := xm (ho); clear HO_5; clear HB; clear HO_8; have HO_5 := n0_; have HB := n1_; have HO904 := n2_; clear n0_ n1_ n2_; clear ho hb hg hat))
         go_roundg k2
         case measure => have := HK1.out; have := HK2.out; omega
         case rel => exact ⟨(y902), (wrap64 (x9_2 + 1)), (by first | rfl | (simp; done) | (simp [*]; done)), H', ⟨by have := HK1.out; have := HK2.out; omega⟩, ⟨by (with_reducible repeat (first | apply Kd.R_alloc | apply Kd.R_drewN | apply Kd.R_drew)); exact HO_5.out⟩, ⟨by (with_reducible repeat (first | apply Kd.R_alloc | apply Kd.R_drewN | apply Kd.R_drew)); exact HO904.out⟩, ⟨by repeat (first | (with_reducible first | exact HB.out | apply xa | apply xn | apply xd) | exact HB.out)⟩⟩
        ·rw [if_neg c18] at H
         exact absurd H (by simp)
       ·rw [if_neg c16] at H
        have c16b0 : decide (x9_2 < 4) = false := decide_eq_false c16
        clear c16
        simp only [Option.some.injEq, Prod.mk.injEq] at H
        obtain ⟨rfl, rfl, rfl⟩ := H
        go_wp2
        go_ret3
        exact ⟨_, _, by first | rfl | (simp [errW_none, errW_some] <;> rfl) | (simp [*, errW_none, errW_some] <;> rfl), by (with_reducible repeat (first | apply Kd.R_alloc | apply Kd.R_drewN | apply Kd.R_drew)); exact HO_5.out, by (with_reducible repeat (first | apply Kd.R_alloc | apply Kd.R_drewN | apply Kd.R_drew)); exact HO_8.out, by repeat (first | (with_reducible first | exact HB.out | apply xa | apply xn | apply xd) | exact HB.out)⟩
 ·replace c3 := Bool.eq_false_iff.mpr c3
  subst c3
  have H1 : (some (([] : List (S151)), ([] : List Int), false)) = some (r1, r2, r3) := by first | (with_reducible rfl) | (rw [if_neg (show ¬ (false = true) by decide)] at H; exact H)
  clear H
  have H := H1
  clear H1
  simp only [Option.some.injEq, Prod.mk.injEq] at H
  obtain ⟨rfl, rfl, rfl⟩ := H
  go_enter Try.func63, Try.ntmps63
  go_wp2_with (first | ((with_reducible refine gate_callee (f := 82) rfl ?_); refine goesL_ (some 11) rfl rfl Try.func82 (by kernel_rfl) rfl #[.slice A0 l0.length c0] rfl (by (try simp only [List.map_toArray, List.map_cons, List.map_nil]); first | done | rfl | (simp only [List.length_drop, List.length_take]; rfl)) ?_; (with_reducible refine (spec_GoodSteps.calls k _ _ l0 false _ ?side1 ?side2 A2.out).mono ?_); (case side1 => repeat (first | exact HR0.out | (with_reducible refine Kd.C_alloc ?_ _) | (with_reducible refine Kd.C_drewN ?_ _) | (with_reducible refine Kd.C_drew ?_))); (case side2 => exact HC0.out); rintro e w20 ⟨rfl, hb⟩; refine ⟨_, rfl, ?_⟩; have n0_ := xm (below_step (by repeat (first | (with_reducible first | exact HB.out | apply xa | apply xn | apply xd) | exact HB.out)) hb); clear HB; have HB := n0_; clear n0_; (try clear hb); (try clear hb2); (try clear hk); (try clear hi)))
  go_ret3
  exact ⟨_, _, by first | rfl | (simp [errW_none, errW_some] <;> rfl) | (simp [*, errW_none, errW_some] <;> rfl), by first | exact Kd.R_nil _ _ _ _ _ | exact Kd.N_nil _ _ _ _ _ | exact Kd.V_nil _ _ _ _ _ | exact Kd.Q_nil _ _ _ _ _ | exact Kd.S_nil _ _ _ _ _, by first | exact Kd.R_nil _ _ _ _ _ | exact Kd.N_nil _ _ _ _ _ | exact Kd.V_nil _ _ _ _ _ | exact Kd.Q_nil _ _ _ _ _ | exact Kd.S_nil _ _ _ _ _, by repeat (first | (with_reducible first | exact HB.out | apply xa | apply xn | apply xd) | exact HB.out)⟩

/-! ### impl_ReadsFrom: function 64 -/
def impl_ReadsFrom.f (k : Nat) (l0 : List (S111)) : Option ((List (S151)) × List Int × Bool) := (impl_GoodSteps.f l0).bind fun t920 => (if t920 = true then ((impl_sources.f k l0).bind fun bt921 => (some (bt921.1, bt921.2, true))) else (some (([] : List (S151)), ([] : List Int), false)))
theorem impl_ReadsFrom.mono : ∀ a0 k, LeO (impl_ReadsFrom.f k a0) (impl_ReadsFrom.f (k + 1) a0) := by
 intro a0 k
 unfold impl_ReadsFrom.f
 repeat' first
   | (with_reducible exact impl_sources.mono _ _)
   | (with_reducible exact LeO.refl _)
   | (with_reducible exact LeO.none _)
   | (with_reducible refine LeO.ite ?_ ?_)
   | (with_reducible refine LeO.bind ?_ (fun _ => ?_))
   | exact impl_sources.mono _ _
   | exact LeO.none _
   | refine LeO.ite ?_ ?_
   | refine LeO.bind ?_ (fun _ => ?_)
set_option maxHeartbeats 8000000 in
set_option maxRecDepth 100000 in
theorem impl_ReadsFrom.calls (k : Nat) (A0 : Option Addr) (c0 : Nat) (l0 : List (S111)) (r1 : List (S151)) (r2 : List Int) (r3 : Bool) (w : World) (hr0 : Kd.C k111 w A0 l0.length l0) (hc0 : l0.length ≤ c0) (h : impl_ReadsFrom.f k l0 = some (r1, r2, r3)) :
  Calls Try.prog 64 #[.slice A0 l0.length c0] w fun e w' => ∃ v0_ v1_ : Value, e = .returned (.tuple #[v0_, v1_, .bool r3]) ∧ Kd.R k151 151 w' w.heap.size (fun _ => True) v0_ r1 ∧ Kd.R (Kd.int .i64) 3 w' w.heap.size (fun _ => True) v1_ r2 ∧ Below w.heap.size w w' := by
 have HR0 := xm hr0
 have HC0 := xm hc0
 clear hr0 hc0
 have HB := xm (Below.refl w.heap.size w)
 have H : ((impl_GoodSteps.f l0).bind fun t920 => (if t920 = true then ((impl_sources.f k l0).bind fun bt921 => (some (bt921.1, bt921.2, true))) else (some (([] : List (S151)), ([] : List Int), false)))) = some (r1, r2, r3) := h
 clear h
 replace H := Option.bind_eq_some_iff.mp H
 obtain ⟨t920, A20, H⟩ := H
 replace H : (if t920 = true then ((impl_sources.f k l0).bind fun bt921 => (some (bt921.1, bt921.2, true))) else (some (([] : List (S151)), ([] : List Int), false))) = some (r1, r2, r3) := H
 have A2 := xm A20
 clear A20
 by_cases c3 : t920 = true
 ·subst c3
  have H1 : ((impl_sources.f k l0).bind fun bt921 => (some (bt921.1, bt921.2, true))) = some (r1, r2, r3) := by first | (with_reducible rfl) | (rw [if_pos rfl] at H; exact H)
  clear H
  have H := H1
  clear H1
  replace H := Option.bind_eq_some_iff.mp H
  obtain ⟨⟨t921, t922⟩, A40, H⟩ := H
  replace H : (some (t921, t922, true)) = some (r1, r2, r3) := H
  have A4 := xm A40
  clear A40
  simp only [Option.some.injEq, Prod.mk.injEq] at H
  obtain ⟨rfl, rfl, rfl⟩ := H
  go_enter Try.func64, Try.ntmps64
  go_wp2_with (first | ((with_reducible refine gate_callee (f := 85) rfl ?_); refine goesL_ (some 8) rfl rfl Try.func85 (by kernel_rfl) rfl #[.slice A0 l0.length c0] rfl (by (try simp only [List.map_toArray, List.map_cons, List.map_nil]); first | done | rfl | (simp only [List.length_drop, List.length_take]; rfl)) ?_; (with_reducible refine (impl_GoodSteps.calls _ _ l0 true _ ?side1 ?side2 A2.out).mono ?_); (case side1 => repeat (first | exact HR0.out | (with_reducible refine Kd.C_alloc ?_ _) | (with_reducible refine Kd.C_drewN ?_ _) | (with_reducible refine Kd.C_drew ?_))); (case side2 => exact HC0.out); rintro e w5 ⟨rfl, hb⟩; refine ⟨_, rfl, ?_⟩; have n0_ := xm (below_step (by repeat (first | (with_reducible first | exact HB.out | apply xa | apply xn | apply xd) | exact HB.out)) hb); clear HB; have HB := n0_; clear n0_; (try clear hb); (try clear hb2); (try clear hk); (try clear hi)) | ((with_reducible refine gate_callee (f := 127) rfl ?_); refine goesL_ (some 12) rfl rfl Try.func127 (by kernel_rfl) rfl #[.slice A0 l0.length c0] rfl (by (try simp only [List.map_toArray, List.map_cons, List.map_nil]); first | done | rfl | (simp only [List.length_drop, List.length_take]; rfl)) ?_; (with_reducible refine (impl_sources.calls k _ _ l0 t921 t922 _ ?side1 ?side2 A4.out).mono ?_); (case side1 => repeat (first | exact (Kd.C_below HR0.out HB.out) | (with_reducible refine Kd.C_alloc ?_ _) | (with_reducible refine Kd.C_drewN ?_ _) | (with_reducible refine Kd.C_drew ?_))); (case side2 => exact HC0.out); rintro e w6 ⟨v923, v925, rfl, ho0, ho1, hb⟩; refine ⟨_, rfl, ?_⟩; have n0_ := xm (Kd.R_lower ho0 (xz (by repeat (first | (with_reducible first | exact HB.out | apply xa | apply xn | apply xd) | exact HB.out)))); have n1_ := xm (Kd.R_lower ho1 (xz (by repeat (first | (with_reducible first | exact HB.out | apply xa | apply xn | apply xd) | exact HB.out)))); have n2_ := xm (below_step (by repeat (first | (with_reducible first | exact HB.out | apply xa | apply xn | apply xd) | exact HB.out)) hb); clear HB; have HO924 := n0_; have HO926 := n1_; have HB := n2_; clear n0_ n1_ n2_; (try clear hb); (try clear hb2); (try clear hk); (try clear hi); (try clear ho0); (try clear ho1)))
  go_ret3
  exact ⟨_, _, by first | rfl | (simp [errW_none, errW_some] <;> rfl) | (simp [*, errW_none, errW_some] <;> rfl), by (with_reducible repeat (first | apply Kd.R_alloc | apply Kd.R_drewN | apply Kd.R_drew)); exact HO924.out, by (with_reducible repeat (first | apply Kd.R_alloc | apply Kd.R_drewN | apply Kd.R_drew)); exact HO926.out, by repeat (first | (with_reducible first | exact HB.out | apply xa | apply xn | apply xd) | exact HB.out)⟩
 ·replace c3 := Bool.eq_false_iff.mpr c3
  subst c3
  have H1 : (some (([] : List (S151)), ([] : List Int), false)) = some (r1, r2, r3) := by first | (with_reducible rfl) | (rw [if_neg (show ¬ (false = true) by decide)] at H; exact H)
  clear H
  have H := H1
  clear H1
  simp only [Option.some.injEq, Prod.mk.injEq] at H
  obtain ⟨rfl, rfl, rfl⟩ := H
  go_enter Try.func64, Try.ntmps64
  go_wp2_with (first | ((with_reducible refine gate_callee (f := 85) rfl ?_); refine goesL_ (some 8) rfl rfl Try.func85 (by kernel_rfl) rfl #[.slice A0 l0.length c0] rfl (by (try simp only [List.map_toArray, List.map_cons, List.map_nil]); first | done | rfl | (simp only [List.length_drop, List.length_take]; rfl)) ?_; (with_reducible refine (impl_GoodSteps.calls _ _ l0 false _ ?side1 ?side2 A2.out).mono ?_); (case side1 => repeat (first | exact HR0.out | (with_reducible refine Kd.C_alloc ?_ _) | (with_reducible refine Kd.C_drewN ?_ _) | (with_reducible refine Kd.C_drew ?_))); (case side2 => exact HC0.out); rintro e w7 ⟨rfl, hb⟩; refine ⟨_, rfl, ?_⟩; have n0_ := xm (below_step (by repeat (first | (with_reducible first | exact HB.out | apply xa | apply xn | apply xd) | exact HB.out)) hb); clear HB; have HB := n0_; clear n0_; (try clear hb); (try clear hb2); (try clear hk); (try clear hi)))
  go_ret3
  exact ⟨_, _, by first | rfl | (simp [errW_none, errW_some] <;> rfl) | (simp [*, errW_none, errW_some] <;> rfl), by first | exact Kd.R_nil _ _ _ _ _ | exact Kd.N_nil _ _ _ _ _ | exact Kd.V_nil _ _ _ _ _ | exact Kd.Q_nil _ _ _ _ _ | exact Kd.S_nil _ _ _ _ _, by first | exact Kd.R_nil _ _ _ _ _ | exact Kd.N_nil _ _ _ _ _ | exact Kd.V_nil _ _ _ _ _ | exact Kd.Q_nil _ _ _ _ _ | exact Kd.S_nil _ _ _ _ _, by repeat (first | (with_reducible first | exact HB.out | apply xa | apply xn | apply xd) | exact HB.out)⟩

/-! ### laws_eqSource: function 128 -/
def laws_eqSource.f (a0_0 : Int) (a0_1 : Int) (a1_0 : Int) (a1_1 : Int) : Option (Bool) := if a0_0 = a1_0 then (if a0_1 = a1_1 then (some true) else (some false)) else (some false)
set_option maxHeartbeats 8000000 in
set_option maxRecDepth 100000 in
theorem laws_eqSource.calls (a0_0 : Int) (a0_1 : Int) (a1_0 : Int) (a1_1 : Int) (r : Bool) (w : World) (h : laws_eqSource.f a0_0 a0_1 a1_0 a1_1 = some r) :
  Calls Try.prog 128 #[.agg #[.int .i64 a0_0, .int .i64 a0_1], .agg #[.int .i64 a1_0, .int .i64 a1_1]] w fun e w' => e = .returned (.bool r) ∧ Below w.heap.size w w' := by
 have hu151 := Try.underlying151
 have HB := xm (Below.refl w.heap.size w)
 have H : (if a0_0 = a1_0 then (if a0_1 = a1_1 then (some true) else (some false)) else (some false)) = some r := h
 clear h
 by_cases c3 : a0_0 = a1_0
 ·rw [if_pos c3] at H
  have c3b0 : (a0_0 == a1_0) = true := beq_iff_eq.mpr c3
  have c3b1 : (a0_0 != a1_0) = false := bne_eq_false_iff_eq.mpr c3
  clear c3
  by_cases c4 : a0_1 = a1_1
  ·rw [if_pos c4] at H
   have c4b0 : (a0_1 == a1_1) = true := beq_iff_eq.mpr c4
   have c4b1 : (a0_1 != a1_1) = false := bne_eq_false_iff_eq.mpr c4
   clear c4
   obtain rfl := Option.some.inj H
   go_enter Try.func128, Try.ntmps128
   go_wp2_with (first | ((with_reducible refine gate_dst (N := 2) rfl ?_); refine box_event ?hg (N := 2) ?hd (cs := #[.int .i64 a0_0, .int .i64 a0_1]) (t := 151) ?hr ?_; (case hd => rfl); (case hg => rfl); (case hr => first | (go_simp; done) | (go_simp; rfl)); intro gb927 hg w5 hbox hb; have n0_ := xm (below_step (by repeat (first | (with_reducible first | exact HB.out | apply xa | apply xn | apply xd) | exact HB.out)) hb); have n1_ := xm (hbox); have n2_ := xm ((by rw [hg]; exact (xz (by repeat (first | (with_reducible first | exact HB.out | apply xa | apply xn | apply xd) | exact HB.out))) : w.heap.size ≤ gb927)); have n3_ := xm ((by rw [hg]; exact (xz (by repeat (first | (with_reducible first | exact HB.out | apply xa | apply xn | apply xd) | exact HB.out))) : w.heap.size ≤ gb927)); clear HB; have HB := n0_; have BK927 := n1_; have GW927 := n2_; have GE927 := n3_; clear n0_ n1_ n2_ n3_; clear hb hbox hg) | ((with_reducible refine gate_dst (N := 3) rfl ?_); refine box_event ?hg (N := 3) ?hd (cs := #[.int .i64 a1_0, .int .i64 a1_1]) (t := 151) ?hr ?_; (case hd => rfl); (case hg => rfl); (case hr => first | (go_simp; done) | (go_simp; rfl)); intro gb928 hg w6 hbox hb; have n0_ := xm (blk_below (g := gb927) (o := .cells #[.int .i64 a0_0, .int .i64 a0_1] 151 (0, 0)) (by (with_reducible repeat (first | refine xq ?_ _ | refine xr ?_ | refine xo ?_ _)); exact BK927.out) hb); have n1_ := xm (below_step (by repeat (first | (with_reducible first | exact HB.out | apply xa | apply xn | apply xd | refine xt ?_ GE927.out) | exact HB.out)) hb); have n2_ := xm (hbox); have n3_ := xm ((by rw [hg]; exact (xz (by repeat (first | (with_reducible first | exact HB.out | apply xa | apply xn | apply xd | refine xt ?_ GE927.out) | exact HB.out))) : w.heap.size ≤ gb928)); have n4_ := xm ((by rw [hg]; exact (xz (by repeat (first | (with_reducible first | exact HB.out | apply xa | apply xn | apply xd | refine xt ?_ GE927.out) | exact HB.out))) : w.heap.size ≤ gb928)); have n5_ := xm ((by rw [hg]; exact Nat.ne_of_lt (blk_lt (g := gb927) (o := .cells #[.int .i64 a0_0, .int .i64 a0_1] 151 (0, 0)) (by (with_reducible repeat (first | refine xq ?_ _ | refine xr ?_ | refine xo ?_ _)); exact BK927.out)) : gb927 ≠ gb928)); have n6_ := xm ((by rw [hg]; exact Nat.ne_of_gt (blk_lt (g := gb927) (o := .cells #[.int .i64 a0_0, .int .i64 a0_1] 151 (0, 0)) (by (with_reducible repeat (first | refine xq ?_ _ | refine xr ?_ | refine xo ?_ _)); exact BK927.out)) : gb928 ≠ gb927)); clear BK927; clear HB; have BK927 := n0_; have HB := n1_; have BK928 := n2_; have GW928 := n3_; have GE928 := n4_; have NB927_928 := n5_; have NB928_927 := n6_; clear n0_ n1_ n2_ n3_ n4_ n5_ n6_; clear hb hbox hg; have hnb7 := NB927_928.out; have hnc7 := NB928_927.out; have hcz8_0 : w6.cell? ⟨gb927, 0, none⟩ = some (.int .i64 a0_0) := (xc BK927.out 0).trans rfl; have hcz8_1 : w6.cell? ⟨gb927, 1, none⟩ = some (.int .i64 a0_1) := (xc BK927.out 1).trans rfl; have hfz8_0 := xf BK927.out 0; have hfz8_1 := xf BK927.out 1; have hcz9_0 : w6.cell? ⟨gb928, 0, none⟩ = some (.int .i64 a1_0) := (xc BK928.out 0).trans rfl; have hcz9_1 : w6.cell? ⟨gb928, 1, none⟩ = some (.int .i64 a1_1) := (xc BK928.out 1).trans rfl; have hfz9_0 := xf BK928.out 0; have hfz9_1 := xf BK928.out 1))
   go_ret
   exact ⟨by first | rfl | (simp [errW_none, errW_some] <;> rfl) | (simp [*, errW_none, errW_some] <;> rfl), by repeat (first | (with_reducible first | exact HB.out | apply xa | apply xn | apply xd | refine xt ?_ GE927.out | refine xt ?_ GE928.out) | exact HB.out)⟩
  ·rw [if_neg c4] at H
   have c4b0 : (a0_1 == a1_1) = false := beq_eq_false_iff_ne.mpr c4
   have c4b1 : (a0_1 != a1_1) = true := bne_iff_ne.mpr c4
   obtain rfl := Option.some.inj H
   go_enter Try.func128, Try.ntmps128
   go_wp2_with (first | ((with_reducible refine gate_dst (N := 2) rfl ?_); refine box_event ?hg (N := 2) ?hd (cs := #[.int .i64 a0_0, .int .i64 a0_1]) (t := 151) ?hr ?_; (case hd => rfl); (case hg => rfl); (case hr => first | (go_simp; done) | (go_simp; rfl)); intro gb927 hg w10 hbox hb; have n0_ := xm (below_step (by repeat (first | (with_reducible first | exact HB.out | apply xa | apply xn | apply xd) | exact HB.out)) hb); have n1_ := xm (hbox); have n2_ := xm ((by rw [hg]; exact (xz (by repeat (first | (with_reducible first | exact HB.out | apply xa | apply xn | apply xd) | exact HB.out))) : w.heap.size ≤ gb927)); have n3_ := xm ((by rw [hg]; exact (xz (by repeat (first | (with_reducible first | exact HB.out | apply xa | apply xn | apply xd) | exact HB.out))) : w.heap.size ≤ gb927)); clear HB; have HB := n0_; have BK927 := n1_; have GW927 := n2_; have GE927 := n3_; clear n0_ n1_ n2_ n3_; clear hb hbox hg) | ((with_reducible refine gate_dst (N := 3) rfl ?_); refine box_event ?hg (N := 3) ?hd (cs := #[.int .i64 a1_0, .int .i64 a1_1]) (t := 151) ?hr ?_; (case hd => rfl); (case hg => rfl); (case hr => first | (go_simp; done) | (go_simp; rfl)); intro gb928 hg w11 hbox hb; have n0_ := xm (blk_below (g := gb927) (o := .cells #[.int .i64 a0_0, .int .i64 a0_1] 151 (0, 0)) (by (with_reducible repeat (first | refine xq ?_ _ | refine xr ?_ | refine xo ?_ _)); exact BK927.out) hb); have n1_ := xm (below_step (by repeat (first | (with_reducible first | exact HB.out | apply xa | apply xn | apply xd | refine xt ?_ GE927.out) | exact HB.out)) hb); have n2_ := xm (hbox); have n3_ := xm ((by rw [hg]; exact (xz (by repeat (first | (with_reducible first | exact HB.out | apply xa | apply xn | apply xd | refine xt ?_ GE927.out) | exact HB.out))) : w.heap.size ≤ gb928)); have n4_ := xm ((by rw [hg]; exact (xz (by repeat (first | (with_reducible first | exact HB.out | apply xa | apply xn | apply xd | refine xt ?_ GE927.out) | exact HB.out))) : w.heap.size ≤ gb928)); have n5_ := xm ((by rw [hg]; exact Nat.ne_of_lt (blk_lt (g := gb927) (o := .cells #[.int .i64 a0_0, .int .i64 a0_1] 151 (0, 0)) (by (with_reducible repeat (first | refine xq ?_ _ | refine xr ?_ | refine xo ?_ _)); exact BK927.out)) : gb927 ≠ gb928)); have n6_ := xm ((by rw [hg]; exact Nat.ne_of_gt (blk_lt (g := gb927) (o := .cells #[.int .i64 a0_0, .int .i64 a0_1] 151 (0, 0)) (by (with_reducible repeat (first | refine xq ?_ _ | refine xr ?_ | refine xo ?_ _)); exact BK927.out)) : gb928 ≠ gb927)); clear BK927; clear HB; have BK927 := n0_; have HB := n1_; have BK928 := n2_; have GW928 := n3_; have GE928 := n4_; have NB927_928 := n5_; have NB928_927 := n6_; clear n0_ n1_ n2_ n3_ n4_ n5_ n6_; clear hb hbox hg; have hnb12 := NB927_928.out; have hnc12 := NB928_927.out; have hcz13_0 : w11.cell? ⟨gb927, 0, none⟩ = some (.int .i64 a0_0) := (xc BK927.out 0).trans rfl; have hcz13_1 : w11.cell? ⟨gb927, 1, none⟩ = some (.int .i64 a0_1) := (xc BK927.out 1).trans rfl; have hfz13_0 := xf BK927.out 0; have hfz13_1 := xf BK927.out 1; have hcz14_0 : w11.cell? ⟨gb928, 0, none⟩ = some (.int .i64 a1_0) := (xc BK928.out 0).trans rfl; have hcz14_1 : w11.cell? ⟨gb928, 1, none⟩ = some (.int .i64 a1_1) := (xc BK928.out 1).trans rfl; have hfz14_0 := xf BK928.out 0; have hfz14_1 := xf BK928.out 1))
   go_ret
   exact ⟨by first | rfl | (simp [errW_none, errW_some] <;> rfl) | (simp [*, errW_none, errW_some] <;> rfl), by repeat (first | (with_reducible first | exact HB.out | apply xa | apply xn | apply xd | refine xt ?_ GE927.out | refine xt ?_ GE928.out) | exact HB.out)⟩
 ·rw [if_neg c3] at H
  have c3b0 : (a0_0 == a1_0) = false := beq_eq_false_iff_ne.mpr c3
  have c3b1 : (a0_0 != a1_0) = true := bne_iff_ne.mpr c3
  obtain rfl := Option.some.inj H
  go_enter Try.func128, Try.ntmps128
  go_wp2_with (first | ((with_reducible refine gate_dst (N := 2) rfl ?_); refine box_event ?hg (N := 2) ?hd (cs := #[.int .i64 a0_0, .int .i64 a0_1]) (t := 151) ?hr ?_; (case hd => rfl); (case hg => rfl); (case hr => first | (go_simp; done) | (go_simp; rfl)); intro gb927 hg w15 hbox hb; have n0_ := xm (below_step (by repeat (first | (with_reducible first | exact HB.out | apply xa | apply xn | apply xd) | exact HB.out)) hb); have n1_ := xm (hbox); have n2_ := xm ((by rw [hg]; exact (xz (by repeat (first | (with_reducible first | exact HB.out | apply xa | apply xn | apply xd) | exact HB.out))) : w.heap.size ≤ gb927)); have n3_ := xm ((by rw [hg]; exact (xz (by repeat (first | (with_reducible first | exact HB.out | apply xa | apply xn | apply xd) | exact HB.out))) : w.heap.size ≤ gb927)); clear HB; have HB := n0_; have BK927 := n1_; have GW927 := n2_; have GE927 := n3_; clear n0_ n1_ n2_ n3_; clear hb hbox hg) | ((with_reducible refine gate_dst (N := 3) rfl ?_); refine box_event ?hg (N := 3) ?hd (cs := #[.int .i64 a1_0, .int .i64 a1_1]) (t := 151) ?hr ?_; (case hd => rfl); (case hg => rfl); (case hr => first | (go_simp; done) | (go_simp; rfl)); intro gb928 hg w16 hbox hb; have n0_ := xm (blk_below (g := gb927) (o := .cells #[.int .i64 a0_0, .int .i64 a0_1] 151 (0, 0)) (by (with_reducible repeat (first | refine xq ?_ _ | refine xr ?_ | refine xo ?_ _)); exact BK927.out) hb); have n1_ := xm (below_step (by repeat (first | (with_reducible first | exact HB.out | apply xa | apply xn | apply xd | refine xt ?_ GE927.out) | exact HB.out)) hb); have n2_ := xm (hbox); have n3_ := xm ((by rw [hg]; exact (xz (by repeat (first | (with_reducible first | exact HB.out | apply xa | apply xn | apply xd | refine xt ?_ GE927.out) | exact HB.out))) : w.heap.size ≤ gb928)); have n4_ := xm ((by rw [hg]; exact (xz (by repeat (first | (with_reducible first | exact HB.out | apply xa | apply xn | apply xd | refine xt ?_ GE927.out) | exact HB.out))) : w.heap.size ≤ gb928)); have n5_ := xm ((by rw [hg]; exact Nat.ne_of_lt (blk_lt (g := gb927) (o := .cells #[.int .i64 a0_0, .int .i64 a0_1] 151 (0, 0)) (by (with_reducible repeat (first | refine xq ?_ _ | refine xr ?_ | refine xo ?_ _)); exact BK927.out)) : gb927 ≠ gb928)); have n6_ := xm ((by rw [hg]; exact Nat.ne_of_gt (blk_lt (g := gb927) (o := .cells #[.int .i64 a0_0, .int .i64 a0_1] 151 (0, 0)) (by (with_reducible repeat (first | refine xq ?_ _ | refine xr ?_ | refine xo ?_ _)); exact BK927.out)) : gb928 ≠ gb927)); clear BK927; clear HB; have BK927 := n0_; have HB := n1_; have BK928 := n2_; have GW928 := n3_; have GE928 := n4_; have NB927_928 := n5_; have NB928_927 := n6_; clear n0_ n1_ n2_ n3_ n4_ n5_ n6_; clear hb hbox hg; have hnb17 := NB927_928.out; have hnc17 := NB928_927.out; have hcz18_0 : w16.cell? ⟨gb927, 0, none⟩ = some (.int .i64 a0_0) := (xc BK927.out 0).trans rfl; have hcz18_1 : w16.cell? ⟨gb927, 1, none⟩ = some (.int .i64 a0_1) := (xc BK927.out 1).trans rfl; have hfz18_0 := xf BK927.out 0; have hfz18_1 := xf BK927.out 1; have hcz19_0 : w16.cell? ⟨gb928, 0, none⟩ = some (.int .i64 a1_0) := (xc BK928.out 0).trans rfl; have hcz19_1 : w16.cell? ⟨gb928, 1, none⟩ = some (.int .i64 a1_1) := (xc BK928.out 1).trans rfl; have hfz19_0 := xf BK928.out 0; have hfz19_1 := xf BK928.out 1))
  go_ret
  exact ⟨by first | rfl | (simp [errW_none, errW_some] <;> rfl) | (simp [*, errW_none, errW_some] <;> rfl), by repeat (first | (with_reducible first | exact HB.out | apply xa | apply xn | apply xd | refine xt ?_ GE927.out | refine xt ?_ GE928.out) | exact HB.out)⟩

end Go.Proofs.Ytpbpglbldgpckaa.G
