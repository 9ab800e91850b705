/- Written by a program of this claim's own, out of the translation: functions of the program as plain functions, and that the calls answer as these. No conditions. -/
import Derived.Test.YtpbpglbldgpckaaG0
import Derived.Test.YtpbpglbldgpckaaG17
namespace Go.Proofs.Ytpbpglbldgpckaa.G
open Go.RowKit Go.Proofs.Ytpbpglbldgpckaa.X Go.Proofs.YtpbpglbldgpckaaW.PrintWords Go.Proofs.YtpbpglbldgpckaaW.PrintLast Go.Proofs.YtpbpglbldgpckaaW.PrintMore
attribute [local go_sem] max2_int min2_int max_two min_two max_three min_three max_four min_four   -- for this text's walks alone
set_option linter.unusedVariables false
set_option linter.unusedSimpArgs false

/-! ### laws_toPrepared: function 153 -/
def laws_toPrepared.f (k : Nat) (a0_0 : Int) (a0_1 : Int) (l0_2 : List Int) : Option (Int × Int × List Int) := (laws_toIntS.f k l0_2).bind fun t504 => (some (a0_0, a0_1, t504))
theorem laws_toPrepared.mono : ∀ a0 a1 a2 k, LeO (laws_toPrepared.f k a0 a1 a2) (laws_toPrepared.f (k + 1) a0 a1 a2) := by
 intro a0 a1 a2 k
 unfold laws_toPrepared.f
 repeat' first
   | (with_reducible exact laws_toIntS.mono _ _)
   | (with_reducible exact LeO.refl _)
   | (with_reducible exact LeO.none _)
   | (with_reducible refine LeO.ite ?_ ?_)
   | (with_reducible refine LeO.bind ?_ (fun _ => ?_))
   | exact laws_toIntS.mono _ _
   | exact LeO.none _
   | refine LeO.ite ?_ ?_
   | refine LeO.bind ?_ (fun _ => ?_)
set_option maxHeartbeats 8000000 in
set_option maxRecDepth 100000 in
theorem laws_toPrepared.calls (k : Nat) (a0_0 : Int) (a0_1 : Int) (A0_2 : Option Addr) (c0_2 : Nat) (l0_2 : List Int) (r1 : Int) (r2 : Int) (r3 : List Int) (w : World) (hr0_2 : Kd.C (Kd.int .i64) w A0_2 l0_2.length l0_2) (hc0_2 : l0_2.length ≤ c0_2) (h : laws_toPrepared.f k a0_0 a0_1 l0_2 = some (r1, r2, r3)) :
  Calls Try.prog 153 #[.agg #[.int .i64 a0_0, .int .i64 a0_1, .slice A0_2 l0_2.length c0_2]] w fun e w' => ∃ v2_ : Value, e = .returned (.agg #[.int .i64 r1, .int .i64 r2, v2_]) ∧ Kd.R (Kd.int .i64) 3 w' w.heap.size (fun _ => True) v2_ r3 ∧ Below w.heap.size w w' := by
 have hu176 := Try.underlying176
 have hu130 := Try.underlying130
 have HR0_2 := xm hr0_2
 have HC0_2 := xm hc0_2
 clear hr0_2 hc0_2
 have HB := xm (Below.refl w.heap.size w)
 have H : ((laws_toIntS.f k l0_2).bind fun t504 => (some (a0_0, a0_1, t504))) = some (r1, r2, r3) := h
 clear h
 replace H := Option.bind_eq_some_iff.mp H
 obtain ⟨t504, A20, H⟩ := H
 replace H : (some (a0_0, a0_1, t504)) = some (r1, r2, r3) := H
 have A2 := xm A20
 clear A20
 simp only [Option.some.injEq, Prod.mk.injEq] at H
 obtain ⟨rfl, rfl, rfl⟩ := H
 go_enter Try.func153, Try.ntmps153
 go_wp2_with (first | ((with_reducible refine gate_dst (N := 1) rfl ?_); refine box_event ?hg (N := 1) ?hd (cs := #[.int .i64 a0_0, .int .i64 a0_1, .slice A0_2 l0_2.length c0_2]) (t := 176) ?hr ?_; (case hd => rfl); (case hg => rfl); (case hr => first | (go_simp; done) | (go_simp; rfl)); intro gb501 hg w3 hbox hb; have n0_ := xm (below_step (by repeat (first | (with_reducible first | exact HB.out | apply xa | apply xn | apply xd) | exact HB.out)) hb); have n1_ := xm (hbox); have n2_ := xm ((by rw [hg]; exact (xz (by repeat (first | (with_reducible first | exact HB.out | apply xa | apply xn | apply xd) | exact HB.out))) : w.heap.size ≤ gb501)); have n3_ := xm ((by rw [hg]; exact (xz (by repeat (first | (with_reducible first | exact HB.out | apply xa | apply xn | apply xd) | exact HB.out))) : w.heap.size ≤ gb501)); clear HB; have HB := n0_; have BK501 := n1_; have GW501 := n2_; have GE501 := n3_; clear n0_ n1_ n2_ n3_; clear hb hbox hg) | ((with_reducible refine gate_dst (N := 2) rfl ?_); refine box_event ?hg (N := 2) ?hd (cs := #[.int .i64 0, .int .i64 0, .slice none 0 0]) (t := 130) ?hr ?_; (case hd => rfl); (case hg => rfl); (case hr => first | (go_simp; done) | (go_simp; rfl)); intro gb502 hg w4 hbox hb; have n0_ := xm (blk_below (g := gb501) (o := .cells #[.int .i64 a0_0, .int .i64 a0_1, .slice A0_2 l0_2.length c0_2] 176 (0, 0)) (by (with_reducible repeat (first | refine xq ?_ _ | refine xr ?_ | refine xo ?_ _)); exact BK501.out) hb); have n1_ := xm (below_step (by repeat (first | (with_reducible first | exact HB.out | apply xa | apply xn | apply xd | refine xt ?_ GE501.out) | exact HB.out)) hb); have n2_ := xm (hbox); have n3_ := xm ((by rw [hg]; exact (xz (by repeat (first | (with_reducible first | exact HB.out | apply xa | apply xn | apply xd | refine xt ?_ GE501.out) | exact HB.out))) : w.heap.size ≤ gb502)); have n4_ := xm ((by rw [hg]; exact (xz (by repeat (first | (with_reducible first | exact HB.out | apply xa | apply xn | apply xd | refine xt ?_ GE501.out) | exact HB.out))) : w.heap.size ≤ gb502)); have n5_ := xm ((by rw [hg]; exact Nat.ne_of_lt (blk_lt (g := gb501) (o := .cells #[.int .i64 a0_0, .int .i64 a0_1, .slice A0_2 l0_2.length c0_2] 176 (0, 0)) (by (with_reducible repeat (first | refine xq ?_ _ | refine xr ?_ | refine xo ?_ _)); exact BK501.out)) : gb501 ≠ gb502)); have n6_ := xm ((by rw [hg]; exact Nat.ne_of_gt (blk_lt (g := gb501) (o := .cells #[.int .i64 a0_0, .int .i64 a0_1, .slice A0_2 l0_2.length c0_2] 176 (0, 0)) (by (with_reducible repeat (first | refine xq ?_ _ | refine xr ?_ | refine xo ?_ _)); exact BK501.out)) : gb502 ≠ gb501)); clear BK501; clear HB; have BK501 := n0_; have HB := n1_; have BK502 := n2_; have GW502 := n3_; have GE502 := n4_; have NB501_502 := n5_; have NB502_501 := n6_; clear n0_ n1_ n2_ n3_ n4_ n5_ n6_; clear hb hbox hg) | ((with_reducible refine gate_dst (N := 3) rfl ?_); refine box_event ?hg (N := 3) ?hd (cs := #[.int .i64 0, .int .i64 0, .slice none 0 0]) (t := 130) ?hr ?_; (case hd => rfl); (case hg => rfl); (case hr => first | (go_simp; done) | (go_simp; rfl)); intro gb503 hg w5 hbox hb; have n0_ := xm (blk_below (g := gb501) (o := .cells #[.int .i64 a0_0, .int .i64 a0_1, .slice A0_2 l0_2.length c0_2] 176 (0, 0)) (by (with_reducible repeat (first | refine xq ?_ _ | refine xr ?_ | refine xo ?_ _)); exact BK501.out) hb); have n1_ := xm (blk_below (g := gb502) (o := .cells #[.int .i64 0, .int .i64 0, .slice none 0 0] 130 (0, 0)) (by (with_reducible repeat (first | refine xq ?_ _ | refine xr ?_ | refine xo ?_ _)); exact BK502.out) hb); have n2_ := xm (below_step (by repeat (first | (with_reducible first | exact HB.out | apply xa | apply xn | apply xd | refine xt ?_ GE501.out | refine xt ?_ GE502.out) | exact HB.out)) hb); have n3_ := xm (hbox); have n4_ := xm ((by rw [hg]; exact (xz (by repeat (first | (with_reducible first | exact HB.out | apply xa | apply xn | apply xd | refine xt ?_ GE501.out | refine xt ?_ GE502.out) | exact HB.out))) : w.heap.size ≤ gb503)); have n5_ := xm ((by rw [hg]; exact (xz (by repeat (first | (with_reducible first | exact HB.out | apply xa | apply xn | apply xd | refine xt ?_ GE501.out | refine xt ?_ GE502.out) | exact HB.out))) : w.heap.size ≤ gb503)); have n6_ := xm ((by rw [hg]; exact Nat.ne_of_lt (blk_lt (g := gb501) (o := .cells #[.int .i64 a0_0, .int .i64 a0_1, .slice A0_2 l0_2.length c0_2] 176 (0, 0)) (by (with_reducible repeat (first | refine xq ?_ _ | refine xr ?_ | refine xo ?_ _)); exact BK501.out)) : gb501 ≠ gb503)); have n7_ := xm ((by rw [hg]; exact Nat.ne_of_gt (blk_lt (g := gb501) (o := .cells #[.int .i64 a0_0, .int .i64 a0_1, .slice A0_2 l0_2.length c0_2] 176 (0, 0)) (by (with_reducible repeat (first | refine xq ?_ _ | refine xr ?_ | refine xo ?_ _)); exact BK501.out)) : gb503 ≠ gb501)); have n8_ := xm ((by rw [hg]; exact Nat.ne_of_lt (blk_lt (g := gb502) (o := .cells #[.int .i64 0, .int .i64 0, .slice none 0 0] 130 (0, 0)) (by (with_reducible repeat (first | refine xq ?_ _ | refine xr ?_ | refine xo ?_ _)); exact BK502.out)) : gb502 ≠ gb503)); have n9_ := xm ((by rw [hg]; exact Nat.ne_of_gt (blk_lt (g := gb502) (o := .cells #[.int .i64 0, .int .i64 0, .slice none 0 0] 130 (0, 0)) (by (with_reducible repeat (first | refine xq ?_ _ | refine xr ?_ | refine xo ?_ _)); exact BK502.out)) : gb503 ≠ gb502)); clear BK501; clear BK502; clear HB; have BK501 := n0_; have BK502 := n1_; have HB := n2_; have BK503 := n3_; have GW503 := n4_; have GE503 := n5_; have NB501_503 := n6_; have NB503_501 := n7_; have NB502_503 := n8_; have NB503_502 := n9_; clear n0_ n1_ n2_ n3_ n4_ n5_ n6_ n7_ n8_ n9_; clear hb hbox hg; have hnb6 := NB501_502.out; have hnc6 := NB502_501.out; have hnb7 := NB501_503.out; have hnc7 := NB503_501.out; have hcz8_0 : w5.cell? ⟨gb501, 0, none⟩ = some (.int .i64 a0_0) := (xc BK501.out 0).trans rfl; have hcz8_1 : w5.cell? ⟨gb501, 1, none⟩ = some (.int .i64 a0_1) := (xc BK501.out 1).trans rfl; have hcz8_2 : w5.cell? ⟨gb501, 2, none⟩ = some (.slice A0_2 l0_2.length c0_2) := (xc BK501.out 2).trans rfl; have hfz8_0 := xf BK501.out 0; have hfz8_1 := xf BK501.out 1; have hfz8_2 := xf BK501.out 2; have hnb9 := NB503_502.out; have hnc9 := NB502_503.out; have hcz10_0 : w5.cell? ⟨gb503, 0, none⟩ = some (.int .i64 0) := (xc BK503.out 0).trans rfl; have hcz10_1 : w5.cell? ⟨gb503, 1, none⟩ = some (.int .i64 0) := (xc BK503.out 1).trans rfl; have hcz10_2 : w5.cell? ⟨gb503, 2, none⟩ = some (.slice none 0 0) := (xc BK503.out 2).trans rfl; have hfz10_0 := xf BK503.out 0; have hfz10_1 := xf BK503.out 1; have hfz10_2 := xf BK503.out 2) | ((with_reducible refine gate_callee (f := 26) rfl ?_); refine goesL_ (some 12) rfl rfl Try.func26 (by kernel_rfl) rfl #[.slice A0_2 l0_2.length c0_2] rfl (by (try simp only [List.map_toArray, List.map_cons, List.map_nil]); first | done | rfl | (simp only [List.length_drop, List.length_take]; rfl)) ?_; (with_reducible refine (laws_toIntS.calls k _ _ l0_2 t504 _ ?side1 ?side2 A2.out).mono ?_); (case side1 => exact Kd.C_below HR0_2.out (by repeat (first | (with_reducible first | exact HB.out | apply xa | apply xn | apply xd | refine xt ?_ GE501.out | refine xt ?_ GE502.out | refine xt ?_ GE503.out) | exact HB.out))); (case side2 => exact HC0_2.out); rintro e w11 ⟨v505, rfl, ho0, hb⟩; refine ⟨_, rfl, ?_⟩; have n0_ := xm (Kd.R_lower ho0 (xz (by repeat (first | (with_reducible first | exact HB.out | apply xa | apply xn | apply xd | refine xt ?_ GE501.out | refine xt ?_ GE502.out | refine xt ?_ GE503.out) | exact HB.out)))); have n1_ := xm (blk_below (g := gb501) (o := .cells #[.int .i64 a0_0, .int .i64 a0_1, .slice A0_2 l0_2.length c0_2] 176 (0, 0)) (by (with_reducible repeat (first | refine xq ?_ _ | refine xr ?_ | refine xo ?_ _)); refine blk_far ?_ NB501_503.out _; (with_reducible repeat (first | refine xq ?_ _ | refine xr ?_ | refine xo ?_ _)); refine blk_far ?_ NB501_503.out _; (with_reducible repeat (first | refine xq ?_ _ | refine xr ?_ | refine xo ?_ _)); exact BK501.out) hb); have n2_ := xm (blk_below (g := gb502) (o := .cells #[.int .i64 0, .int .i64 0, .slice none 0 0] 130 (0, 0)) (by (with_reducible repeat (first | refine xq ?_ _ | refine xr ?_ | refine xo ?_ _)); refine blk_far ?_ NB502_503.out _; (with_reducible repeat (first | refine xq ?_ _ | refine xr ?_ | refine xo ?_ _)); refine blk_far ?_ NB502_503.out _; (with_reducible repeat (first | refine xq ?_ _ | refine xr ?_ | refine xo ?_ _)); exact BK502.out) hb); have n3_ := xm (blk_below (g := gb503) (o := .cells #[.int .i64 a0_0, .int .i64 a0_1, .slice none 0 0] 130 (0, 0)) (by (with_reducible repeat (first | refine xq ?_ _ | refine xr ?_ | refine xo ?_ _)); refine blk_put (cs := #[.int .i64 a0_0, .int .i64 0, .slice none 0 0]) ?_ 1 _ rfl; (with_reducible repeat (first | refine xq ?_ _ | refine xr ?_ | refine xo ?_ _)); refine blk_put (cs := #[.int .i64 0, .int .i64 0, .slice none 0 0]) ?_ 0 _ rfl; (with_reducible repeat (first | refine xq ?_ _ | refine xr ?_ | refine xo ?_ _)); exact BK503.out) hb); have n4_ := xm (below_step (by repeat (first | (with_reducible first | exact HB.out | apply xa | apply xn | apply xd | refine xt ?_ GE501.out | refine xt ?_ GE502.out | refine xt ?_ GE503.out) | exact HB.out)) hb); clear BK501; clear BK502; clear BK503; clear HB; have HO506 := n0_; have BK501 := n1_; have BK502 := n2_; have BK503 := n3_; have HB := n4_; clear n0_ n1_ n2_ n3_ n4_; (try clear hb); (try clear hb2); (try clear hk); (try clear hi); (try clear ho0); obtain ⟨Ao12, co12, eo12⟩ := Kd.R_slice HO506.out; subst eo12; have hcz13_0 : w11.cell? ⟨gb503, 0, none⟩ = some (.int .i64 a0_0) := (xc BK503.out 0).trans rfl; have hcz13_1 : w11.cell? ⟨gb503, 1, none⟩ = some (.int .i64 a0_1) := (xc BK503.out 1).trans rfl; have hcz13_2 : w11.cell? ⟨gb503, 2, none⟩ = some (.slice none 0 0) := (xc BK503.out 2).trans rfl; have hfz13_0 := xf BK503.out 0; have hfz13_1 := xf BK503.out 1; have hfz13_2 := xf BK503.out 2; have hcz14_0 : w11.cell? ⟨gb502, 0, none⟩ = some (.int .i64 0) := (xc BK502.out 0).trans rfl; have hcz14_1 : w11.cell? ⟨gb502, 1, none⟩ = some (.int .i64 0) := (xc BK502.out 1).trans rfl; have hcz14_2 : w11.cell? ⟨gb502, 2, none⟩ = some (.slice none 0 0) := (xc BK502.out 2).trans rfl; have hfz14_0 := xf BK502.out 0; have hfz14_1 := xf BK502.out 1; have hfz14_2 := xf BK502.out 2))
 refine bodyPost_ret (results_cell_row rfl _ _ gb502 130 #[.int .i64 a0_0, .int .i64 a0_1, .slice Ao12 t504.length co12] (0, 0) _ rfl (by (with_reducible repeat (first | refine xq ?_ _ | refine xr ?_ | refine xo ?_ _)); refine blk_put (cs := #[.int .i64 a0_0, .int .i64 a0_1, .slice none 0 0]) ?_ 2 _ rfl; (with_reducible repeat (first | refine xq ?_ _ | refine xr ?_ | refine xo ?_ _)); refine blk_put (cs := #[.int .i64 a0_0, .int .i64 0, .slice none 0 0]) ?_ 1 _ rfl; (with_reducible repeat (first | refine xq ?_ _ | refine xr ?_ | refine xo ?_ _)); refine blk_put (cs := #[.int .i64 0, .int .i64 0, .slice none 0 0]) ?_ 0 _ rfl; (with_reducible repeat (first | refine xq ?_ _ | refine xr ?_ | refine xo ?_ _)); refine blk_far ?_ NB502_503.out _; (with_reducible repeat (first | refine xq ?_ _ | refine xr ?_ | refine xo ?_ _)); exact BK502.out) Try.underlying130 rfl (by kernel_rfl)) rfl ?_
 exact ⟨_, by first | rfl | (simp [errW_none, errW_some] <;> rfl) | (simp [*, errW_none, errW_some] <;> rfl), by (with_reducible repeat (first | apply Kd.R_alloc | apply Kd.R_drewN | apply Kd.R_drew)); exact Kd.R_mono (Kd.R_far (p := ⟨gb502, 2, none⟩) (Kd.R_far (p := ⟨gb502, 1, none⟩) (Kd.R_far (p := ⟨gb502, 0, none⟩) (Kd.R_far (p := ⟨gb503, 2, none⟩) (Kd.R_types (Kd.R_types HO506.out BK503.out (by decide)) BK502.out (by decide)) (fun _ hk => hk.1.2) (.slice Ao12 t504.length co12)) (fun _ hk => hk.2) (.int .i64 a0_0)) (fun _ hk => hk.2) (.int .i64 a0_1)) (fun _ hk => hk.2) (.slice Ao12 t504.length co12)) (fun _ hk => trivial), by repeat (first | (with_reducible first | exact HB.out | apply xa | apply xn | apply xd | refine xt ?_ GE501.out | refine xt ?_ GE502.out | refine xt ?_ GE503.out) | exact HB.out)⟩

/-! ### laws_toPreparedS: function 110 -/
def laws_toPreparedS.l0 : Nat → List (S176) → List (S130) → Int → Option ((List (S130)))
 | 0, _, _, _ => none
 | k + 1, x0, x3, x4 => if x4 < (x0.length : Int) then (if 0 ≤ x4 then ((laws_toPrepared.f k ((rd_T176 x0 x4).f0) ((rd_T176 x0 x4).f1) ((rd_T176 x0 x4).f2)).bind fun bt511 => (if x4 < (x3.length : Int) then (laws_toPreparedS.l0 k x0 (x3.set (x4 : Int).toNat (⟨bt511.1, bt511.2.1, bt511.2.2⟩ : S130)) (wrap64 (x4 + 1))) else (none))) else (none)) else (some x3)
def laws_toPreparedS.f (k : Nat) (l0 : List (S176)) : Option ((List (S130))) := if 0 ≤ (l0.length : Int) then (if ((l0.length : Int) : Int).toNat ≤ 7036874417766 then (laws_toPreparedS.l0 k l0 (List.replicate ((l0.length : Int) : Int).toNat z130) 0) else (none)) else (none)
theorem laws_toPreparedS.mono_l : ∀ k, (∀ y0 y1 y2, LeO (laws_toPreparedS.l0 k y0 y1 y2) (laws_toPreparedS.l0 (k + 1) y0 y1 y2))
 | 0 => fun _ _ _ r h => by simp [laws_toPreparedS.l0] at h
 | k + 1 => by
  have ih0 := laws_toPreparedS.mono_l k
  ·intro y0 y1 y2
   unfold laws_toPreparedS.l0
   repeat' first
   | (with_reducible exact ih0 _ _ _)
   | (with_reducible exact laws_toPrepared.mono _ _ _ _)
   | (with_reducible exact LeO.refl _)
   | (with_reducible exact LeO.none _)
   | (with_reducible refine LeO.ite ?_ ?_)
   | (with_reducible refine LeO.bind ?_ (fun _ => ?_))
   | exact ih0 _ _ _
   | exact laws_toPrepared.mono _ _ _ _
   | exact LeO.none _
   | refine LeO.ite ?_ ?_
   | refine LeO.bind ?_ (fun _ => ?_)
theorem laws_toPreparedS.mono : ∀ a0 k, LeO (laws_toPreparedS.f k a0) (laws_toPreparedS.f (k + 1) a0) := by
 intro a0 k
 have ih0 := laws_toPreparedS.mono_l k
 unfold laws_toPreparedS.f
 repeat' first
   | (with_reducible exact ih0 _ _ _)
   | (with_reducible exact laws_toPrepared.mono _ _ _ _)
   | (with_reducible exact LeO.refl _)
   | (with_reducible exact LeO.none _)
   | (with_reducible refine LeO.ite ?_ ?_)
   | (with_reducible refine LeO.bind ?_ (fun _ => ?_))
   | exact ih0 _ _ _
   | exact laws_toPrepared.mono _ _ _ _
   | exact LeO.none _
   | refine LeO.ite ?_ ?_
   | refine LeO.bind ?_ (fun _ => ?_)
set_option maxHeartbeats 8000000 in
set_option maxRecDepth 100000 in
theorem laws_toPreparedS.calls (k : Nat) (A0 : Option Addr) (c0 : Nat) (l0 : List (S176)) (r : List (S130)) (w : World) (hr0 : Kd.C k176 w A0 l0.length l0) (hc0 : l0.length ≤ c0) (h : laws_toPreparedS.f k l0 = some r) :
  Calls Try.prog 110 #[.slice A0 l0.length c0] w fun e w' => ∃ v0_ : Value, e = .returned (v0_) ∧ Kd.S k130 130 w' w.heap.size (fun _ => True) v0_ r ∧ Below w.heap.size w w' := by
 have hu176 := Try.underlying176
 have hu130 := Try.underlying130
 have HR0 := xm hr0
 have HC0 := xm hc0
 clear hr0 hc0
 have HB := xm (Below.refl w.heap.size w)
 have H : (if 0 ≤ (l0.length : Int) then (if ((l0.length : Int) : Int).toNat ≤ 7036874417766 then (laws_toPreparedS.l0 k l0 (List.replicate ((l0.length : Int) : Int).toNat z130) 0) else (none)) else (none)) = some r := h
 clear h
 by_cases c2 : 0 ≤ (l0.length : Int)
 ·rw [if_pos c2] at H
  have c2b0 := eq_true c2
  have c2b1 : decide (0 ≤ (l0.length : Int)) = true := decide_eq_true c2
  clear c2
  by_cases c3 : ((l0.length : Int) : Int).toNat ≤ 7036874417766
  ·rw [if_pos c3] at H
   have c3b0 := eq_true c3
   have c3b1 : decide (((l0.length : Int) : Int).toNat ≤ 7036874417766) = true := decide_eq_true c3
   clear c3
   obtain ⟨y507, hy507⟩ : ∃ y_ : List (S130), y_ = (List.replicate ((l0.length : Int) : Int).toNat z130) := ⟨_, rfl⟩
   replace H : (laws_toPreparedS.l0 k l0 y507 0) = some r := by first | (rw [hy507]; with_reducible exact H) | (have H2_ := (Option.bind_some _ _).symm.trans H; rw [hy507]; with_reducible exact H2_) | (have H2_ := (Option.bind_some _ _).symm.trans H; with_reducible exact H2_) | with_reducible exact H | (rw [hy507]; exact H) | exact H
   have Ny507 := xm hy507
   clear hy507
   have H' := xm H
   clear H
   go_enter Try.func110, Try.ntmps110
   go_wp2_with (first | ((with_reducible refine gate_dst (N := 7) rfl ?_); refine Kd.S_make k130 _ 130 rfl (N := 7) rfl 32 _ _ rfl (l0.length : Int) rfl rfl Try.underlying32 (.agg #[(.int .i64 0), (.int .i64 0), (.slice none 0 0)]) 40 info130 rfl (by decide) (by omega) z130 (ok := fun _ => True) (okp := fun _ => True) (k130_mkM _ _ _ z130 (Kd.R_nil _ _ _ _ _)) (fun _ hk => hk) trivial (of_decide_eq_true (by first | (with_reducible assumption) | assumption)) (Nat.le_trans (Nat.mul_le_mul_right _ (of_decide_eq_true (by first | (with_reducible assumption) | assumption) : (l0.length : Int).toNat ≤ 7036874417766)) (by omega)) (Below.refl _ _) (Nat.le_refl _) ?_; intro v508 w4 ho5 hb hg_ hnew_; clear hg_ hnew_; (first | rw [← Ny507.out] at ho5 | (simp only [Int.reduceToNat] at ho5; rw [← Ny507.out] at ho5)); have n0_ := xm (Kd.S_lower ho5 (xz (by repeat (first | (with_reducible first | exact HB.out | apply xa | apply xn | apply xd) | exact HB.out)))); have n1_ := xm (below_step (by repeat (first | (with_reducible first | exact HB.out | apply xa | apply xn | apply xd) | exact HB.out)) hb); clear HB; have HO509 := n0_; have HB := n1_; clear n0_ n1_; clear hb ho5))
   go_loopg [4] k (fun kq v4 w' => ∃ (x3_1 : List (S130)) (x4_1 : Int), v4 = .int .i64 x4_1 ∧ Aside0 (laws_toPreparedS.l0 kq l0 x3_1 x4_1 = some r) ∧ Aside0 (kq ≤ k) ∧ Aside0 (Kd.S k130 130 w' w.heap.size (fun _ => True) v508 x3_1) ∧ Aside0 (Below w.heap.size w w'))
   case atStart => exact ⟨(y507), (0), (by first | rfl | (simp; done) | (simp [*]; done)), H', ⟨Nat.le_refl _⟩, ⟨by (with_reducible repeat (first | apply Kd.S_alloc | apply Kd.S_drewN | apply Kd.S_drew)); exact HO509.out⟩, ⟨by repeat (first | (with_reducible first | exact HB.out | apply xa | apply xn | apply xd) | exact HB.out)⟩⟩
   case round =>
    clear H'
    try clear c1
    try clear c2
    try clear c2b0
    try clear c2b1
    try clear p2
    try clear c3
    try clear c3b0
    try clear c3b1
    obtain ⟨x3_1, x4_1, rfl, HA, HK1, HO_3, HB⟩ := hrel
    cases gk with
    | zero => exact absurd HA.out (by simp [laws_toPreparedS.l0])
    | succ k1 =>
     have H := HA.out
     clear HA
     simp only [laws_toPreparedS.l0] at H
     by_cases c6 : x4_1 < (l0.length : Int)
     ·rw [if_pos c6] at H
      have c6b0 : decide (x4_1 < (l0.length : Int)) = true := decide_eq_true c6
      clear c6
      by_cases c7 : 0 ≤ x4_1
      ·rw [if_pos c7] at H
       have c7b0 : decide (0 ≤ x4_1) = true := decide_eq_true c7
       clear c7
       replace H := Option.bind_eq_some_iff.mp H
       obtain ⟨⟨t511, t512, t513⟩, A80, H⟩ := H
       replace H : (if x4_1 < (x3_1.length : Int) then (laws_toPreparedS.l0 k1 l0 (x3_1.set (x4_1 : Int).toNat (⟨t511, t512, t513⟩ : S130)) (wrap64 (x4_1 + 1))) else (none)) = some r := H
       have A8 := xm A80
       clear A80
       by_cases c9 : x4_1 < (x3_1.length : Int)
       ·rw [if_pos c9] at H
        have c9b0 : decide (x4_1 < (x3_1.length : Int)) = true := decide_eq_true c9
        clear c9
        obtain ⟨y516, hy516⟩ : ∃ y_ : List (S130), y_ = (x3_1.set (x4_1 : Int).toNat (⟨t511, t512, t513⟩ : S130)) := ⟨_, rfl⟩
        replace H : (laws_toPreparedS.l0 k1 l0 y516 (wrap64 (x4_1 + 1))) = some r := by first | (rw [hy516]; with_reducible exact H) | (have H2_ := (Option.bind_some _ _).symm.trans H; rw [hy516]; with_reducible exact H2_) | (have H2_ := (Option.bind_some _ _).symm.trans H; with_reducible exact H2_) | with_reducible exact H | (rw [hy516]; exact H) | exact H
        have Ny516 := xm hy516
        clear hy516
        have H' := xm H
        clear H
        have p510 : 0 ≤ (x4_1 : Int) := of_decide_eq_true (by first | (with_reducible assumption) | assumption)
        have q510 : x4_1 < (l0.length : Int) := of_decide_eq_true (by first | (with_reducible assumption) | assumption)
        obtain ⟨ad510, A510_2, c510_2, e510, hx510_0, hx510_1, hx510_2, hl510_2, hi510_2⟩ := at_T176 HR0.out x4_1 p510 q510
        cases e510
        replace hx510_0 := (HB.out.cell (World.block_lt_of_cell? w _ hx510_0)).trans hx510_0
        replace hx510_1 := (HB.out.cell (World.block_lt_of_cell? w _ hx510_1)).trans hx510_1
        replace hx510_2 := (HB.out.cell (World.block_lt_of_cell? w _ hx510_2)).trans hx510_2
        have HR510_2 := xm hi510_2
        have HC510_2 := xm hl510_2
        clear hi510_2 hl510_2
        replace p510 := eq_true p510
        replace q510 := eq_true q510
        go_wp2_with (first | ((with_reducible refine gate_callee (f := 153) rfl ?_); refine goesL_ (some 20) rfl rfl Try.func153 (by kernel_rfl) rfl #[.agg #[.int .i64 ((rd_T176 l0 x4_1).f0), .int .i64 ((rd_T176 l0 x4_1).f1), .slice A510_2 ((rd_T176 l0 x4_1).f2).length c510_2]] rfl (by (try simp only [List.map_toArray, List.map_cons, List.map_nil]); first | done | rfl | (simp only [List.length_drop, List.length_take]; rfl)) ?_; (with_reducible refine (laws_toPrepared.calls k1 ((rd_T176 l0 x4_1).f0) ((rd_T176 l0 x4_1).f1) _ _ ((rd_T176 l0 x4_1).f2) t511 t512 t513 _ ?side1 ?side2 A8.out).mono ?_); (case side1 => repeat (first | exact (Kd.C_below HR510_2.out HB.out) | (with_reducible refine Kd.C_alloc ?_ _) | (with_reducible refine Kd.C_drewN ?_ _) | (with_reducible refine Kd.C_drew ?_))); (case side2 => exact HC510_2.out); rintro e w11 ⟨v514, rfl, ho0, hb⟩; refine ⟨_, rfl, ?_⟩; have n0_ := xm (Kd.S_elder' (by (with_reducible repeat (first | apply Kd.S_alloc | apply Kd.S_drewN | apply Kd.S_drew)); exact HO_3.out) (Kd.R_base ho0) hb); have n1_ := xm (Kd.R_lower ho0 (xz (by repeat (first | (with_reducible first | exact HB.out | apply xa | apply xn | apply xd) | exact HB.out)))); have n2_ := xm (below_step (by repeat (first | (with_reducible first | exact HB.out | apply xa | apply xn | apply xd) | exact HB.out)) hb); clear HO_3; clear HB; have HO_3 := n0_; have HO515 := n1_; have HB := n2_; clear n0_ n1_ n2_; (try clear hb); (try clear hb2); (try clear hk); (try clear hi); (try clear ho0); have p10 : 0 ≤ (x4_1 : Int) := of_decide_eq_true (by first | (with_reducible assumption) | assumption); have q10 : (x4_1 : Int) < ((x3_1.length : Int) : Int) := of_decide_eq_true (by first | (with_reducible assumption) | assumption); obtain ⟨go10, co10, eo10, gb10, gl10, cl10, HG10⟩ := Kd.S_form HO_3.out (by omega); (first | cases eo10 | (injection eo10 with ea_ en_ ec_; (first | subst ea_ | (injection ea_ with ea_; subst ea_)); subst ec_; clear en_)); have GB10 := xm gb10; have GG10 := xm HG10; clear gb10 gl10 HG10; obtain ⟨_, ce10, hcl10, hM10, hcc10, hfr10, _, _⟩ := Kd.S_elem HO_3.out z130 (x4_1 : Int) p10 q10; obtain ⟨ve10_2, rfl, ge10_2⟩ := k130_openM hM10; have hx10_0 : w11.cell? ⟨go10, (x4_1 : Int).toNat * 3, none⟩ = some (.int .i64 ((rd_T130 x3_1 x4_1).f0)) := hcc10 0 _ rfl; have hx10_1 : w11.cell? ⟨go10, (x4_1 : Int).toNat * 3 + 1, none⟩ = some (.int .i64 ((rd_T130 x3_1 x4_1).f1)) := hcc10 1 _ rfl; have hx10_2 : w11.cell? ⟨go10, (x4_1 : Int).toNat * 3 + 2, none⟩ = some (ve10_2) := hcc10 2 _ rfl; have hf10_0 : w11.frozen? ⟨go10, (x4_1 : Int).toNat * 3, none⟩ = false := hfr10 0; have hf10_1 : w11.frozen? ⟨go10, (x4_1 : Int).toNat * 3 + 1, none⟩ = false := hfr10 1; have hf10_2 : w11.frozen? ⟨go10, (x4_1 : Int).toNat * 3 + 2, none⟩ = false := hfr10 2; (try clear hM10); clear hcl10 hcc10 hfr10; replace p10 := eq_true p10; replace q10 := eq_true q10; obtain ⟨Ao14, co14, eo14⟩ := Kd.R_slice HO515.out; subst eo14; have n_ := xm (Kd.S_mono (ok' := (fun k_ => some k_ ≠ (.slice Ao14 t513.length co14 : Value).ownBlock)) HO_3.out (fun k_ hk => hk.2)); clear HO_3; have HO_3 := n_; clear n_; have HX12 := xm (show Kd.S k130 130 w11 w.heap.size (fun k_ => ((fun _ => True)) k_ ∧ ¬ ((fun k_ => some k_ = (.slice Ao14 t513.length co14 : Value).ownBlock)) k_) (.slice (some ⟨go10, 0, none⟩) x3_1.length co10) x3_1 from (by (with_reducible repeat (first | apply Kd.S_alloc | apply Kd.S_drewN | apply Kd.S_drew)); exact Kd.S_mono HO_3.out (fun k_ hk => ⟨trivial, fun e_ => hk e_⟩))); obtain ⟨oki12, ce12, hcl12, hM12, hcc12, hfr12, hoki12, hH12⟩ := Kd.S_elem HX12.out z130 (x4_1 : Int) (of_decide_eq_true (by first | (with_reducible assumption) | assumption)) (by have h_ : (x4_1 : Int) < ((x3_1.length : Int) : Int) := of_decide_eq_true (by first | (with_reducible assumption) | assumption); first | exact h_ | (have e_ := (Kd.S_reads' HO_3.out).1; omega) | simpa using h_); obtain ⟨ve12_2, rfl, ge12_2⟩ := k130_openM hM12; have HP12 := Kd.S_seg hH12 (of_decide_eq_true (by first | (with_reducible assumption) | assumption)) (by have h_ : (x4_1 : Int) < ((x3_1.length : Int) : Int) := of_decide_eq_true (by first | (with_reducible assumption) | assumption); first | exact h_ | (have e_ := (Kd.S_reads' HO_3.out).1; omega) | simpa using h_) (seg := [.int .i64 t511, .int .i64 t512, .slice Ao14 t513.length co14]) (j := 0) (show 3 ≤ 3 from by decide) (x' := (⟨t511, t512, t513⟩ : S130)) (k130_mkM _ _ _ (⟨t511, t512, t513⟩ : S130) (Kd.R_mono (Kd.R_tight rfl (Kd.R_mono (ok' := fun k_ => ((fun _ => True)) k_ ∧ k_ ≠ go10) (Kd.R_apart' (HO515.out) (Kd.S_typed HO_3.out) (by decide)) (fun k_ hk => ⟨trivial, fun e_ => (hk.2) (by rw [e_]; rfl)⟩))) (fun _ h_ => Or.inr (h_)))) (fun _ hk => hk) (fun k_ hk_ => ((Kd.R_mono (ok' := fun k_ => ((fun _ => True)) k_ ∧ k_ ≠ go10) (Kd.R_apart' (HO515.out) (Kd.S_typed HO_3.out) (by decide)) (fun k_ hk => ⟨trivial, fun e_ => (hk.2) (by rw [e_]; rfl)⟩))).1 k_ hk_.symm); have hx12_0 := hcc12 0 _ rfl; (try simp only [show (k130).sz = 3 from rfl, Nat.mul_one, Nat.add_zero] at hx12_0); have hf12_0 := hfr12 0; (try simp only [show (k130).sz = 3 from rfl, Nat.mul_one, Nat.add_zero] at hf12_0); have hx12_1 := hcc12 1 _ rfl; (try simp only [show (k130).sz = 3 from rfl, Nat.mul_one, Nat.add_zero] at hx12_1); have hf12_1 := hfr12 1; (try simp only [show (k130).sz = 3 from rfl, Nat.mul_one, Nat.add_zero] at hf12_1); have hx12_2 := hcc12 2 _ rfl; (try simp only [show (k130).sz = 3 from rfl, Nat.mul_one, Nat.add_zero] at hx12_2); have hf12_2 := hfr12 2; (try simp only [show (k130).sz = 3 from rfl, Nat.mul_one, Nat.add_zero] at hf12_2); (try clear hM12); clear hcl12 hcc12 hfr12 hoki12 hH12) | ((with_reducible refine gate_store (t := 130) (p := 21) rfl ?_); refine store_event (t := 130) (p := 21) (v := ?vo_w13) (w1 := (((w11.setCell ⟨go10, (x4_1 : Int).toNat * 3, none⟩ (.int .i64 t511)).setCell ⟨go10, (x4_1 : Int).toNat * 3 + 1, none⟩ (.int .i64 t512)).setCell ⟨go10, (x4_1 : Int).toNat * 3 + 2, none⟩ (.slice Ao14 t513.length co14))) ?hg ?ho ?hn ?hr ?_; (case ho => rfl); (case hg => rfl); (case hn => rfl); (case hr => first | (go_simp; done) | (go_simp; rfl)); intro w13 hw; have hg : w11.grownBy w13 (some go10) := (by rw [hw]; exact HP12.2); have hp_ : Kd.S k130 130 w13 w.heap.size (fun _ => True) (.slice (some ⟨go10, 0, none⟩) x3_1.length co10) y516 := (by rw [hw, Ny516.out]; exact HP12.1); clear HP12; have n0_ := xm (hp_); have n1_ := xm ((by rw [hw]; exact xt (xt (xt (HB.out) GB10.out) GB10.out) GB10.out : Below w.heap.size w w13)); clear HO_3; clear HB; clear HO515; have HO_3 := n0_; have HB := n1_; clear n0_ n1_; clear hg hw hp_))
        go_roundg k1
        case measure => have := HK1.out; omega
        case rel => exact ⟨(y516), (wrap64 (x4_1 + 1)), (by first | rfl | (simp; done) | (simp [*]; done)), H', ⟨by have := HK1.out; omega⟩, ⟨by (with_reducible repeat (first | apply Kd.S_alloc | apply Kd.S_drewN | apply Kd.S_drew)); exact HO_3.out⟩, ⟨by repeat (first | (with_reducible first | exact HB.out | apply xa | apply xn | apply xd) | exact HB.out)⟩⟩
       ·rw [if_neg c9] at H
        exact absurd H (by simp)
      ·rw [if_neg c7] at H
       exact absurd H (by simp)
     ·rw [if_neg c6] at H
      have c6b0 : decide (x4_1 < (l0.length : Int)) = false := decide_eq_false c6
      clear c6
      obtain rfl := Option.some.inj H
      go_wp2
      go_ret
      exact ⟨_, by first | rfl | (simp [errW_none, errW_some] <;> rfl) | (simp [*, errW_none, errW_some] <;> rfl), by (with_reducible repeat (first | apply Kd.S_alloc | apply Kd.S_drewN | apply Kd.S_drew)); exact HO_3.out, by repeat (first | (with_reducible first | exact HB.out | apply xa | apply xn | apply xd) | exact HB.out)⟩
  ·rw [if_neg c3] at H
   exact absurd H (by simp)
 ·rw [if_neg c2] at H
  exact absurd H (by simp)

/-! ### laws_toSink: function 47 -/
def laws_toSink.f (k : Nat) (l0_0 : List Int) (a0_1 : Int) (l0_2 : List Int) (l0_3 : List (S176)) (l0_4 : List Int) (a0_5 : Int) (a0_6 : Int) : Option (List Int × Int × List Int × (List (S130)) × List Int × Int × Int) := (laws_toIntS.f k l0_0).bind fun t520 => ((laws_toIntS.f k l0_2).bind fun t523 => ((laws_toPreparedS.f k l0_3).bind fun t526 => ((laws_toIntS.f k l0_4).bind fun t529 => (some (t520, a0_1, t523, t526, t529, a0_5, a0_6)))))
theorem laws_toSink.mono : ∀ a0 a1 a2 a3 a4 a5 a6 k, LeO (laws_toSink.f k a0 a1 a2 a3 a4 a5 a6) (laws_toSink.f (k + 1) a0 a1 a2 a3 a4 a5 a6) := by
 intro a0 a1 a2 a3 a4 a5 a6 k
 unfold laws_toSink.f
 repeat' first
   | (with_reducible exact laws_toIntS.mono _ _)
   | (with_reducible exact laws_toPreparedS.mono _ _)
   | (with_reducible exact LeO.refl _)
   | (with_reducible exact LeO.none _)
   | (with_reducible refine LeO.ite ?_ ?_)
   | (with_reducible refine LeO.bind ?_ (fun _ => ?_))
   | exact laws_toIntS.mono _ _
   | exact laws_toPreparedS.mono _ _
   | exact LeO.none _
   | refine LeO.ite ?_ ?_
   | refine LeO.bind ?_ (fun _ => ?_)
set_option maxHeartbeats 8000000 in
set_option maxRecDepth 100000 in
theorem laws_toSink.calls (k : Nat) (A0_0 : Option Addr) (c0_0 : Nat) (l0_0 : List Int) (a0_1 : Int) (A0_2 : Option Addr) (c0_2 : Nat) (l0_2 : List Int) (A0_3 : Option Addr) (c0_3 : Nat) (l0_3 : List (S176)) (A0_4 : Option Addr) (c0_4 : Nat) (l0_4 : List Int) (a0_5 : Int) (a0_6 : Int) (r1 : List Int) (r2 : Int) (r3 : List Int) (r4 : List (S130)) (r5 : List Int) (r6 : Int) (r7 : Int) (w : World) (hr0_0 : Kd.C (Kd.int .i64) w A0_0 l0_0.length l0_0) (hc0_0 : l0_0.length ≤ c0_0) (hr0_2 : Kd.C (Kd.int .i64) w A0_2 l0_2.length l0_2) (hc0_2 : l0_2.length ≤ c0_2) (hr0_3 : Kd.C k176 w A0_3 l0_3.length l0_3) (hc0_3 : l0_3.length ≤ c0_3) (hr0_4 : Kd.C (Kd.int .i64) w A0_4 l0_4.length l0_4) (hc0_4 : l0_4.length ≤ c0_4) (h : laws_toSink.f k l0_0 a0_1 l0_2 l0_3 l0_4 a0_5 a0_6 = some (r1, r2, r3, r4, r5, r6, r7)) :
  Calls Try.prog 47 #[.agg #[.slice A0_0 l0_0.length c0_0, .int .i64 a0_1, .slice A0_2 l0_2.length c0_2, .slice A0_3 l0_3.length c0_3, .slice A0_4 l0_4.length c0_4, .int .i64 a0_5, .int .i64 a0_6]] w fun e w' => ∃ v0_ v2_ v3_ v4_ : Value, e = .returned (.agg #[v0_, .int .i64 r2, v2_, v3_, v4_, .int .i64 r6, .int .i64 r7]) ∧ Kd.R (Kd.int .i64) 3 w' w.heap.size (fun k_ => some k_ ≠ (v2_ : Value).ownBlock ∧ some k_ ≠ (v4_ : Value).ownBlock) v0_ r1 ∧ Kd.R (Kd.int .i64) 3 w' w.heap.size (fun k_ => some k_ ≠ (v0_ : Value).ownBlock ∧ some k_ ≠ (v4_ : Value).ownBlock) v2_ r3 ∧ Kd.S k130 130 w' w.heap.size (fun k_ => some k_ ≠ (v0_ : Value).ownBlock ∧ some k_ ≠ (v2_ : Value).ownBlock ∧ some k_ ≠ (v4_ : Value).ownBlock) v3_ r4 ∧ Kd.R (Kd.int .i64) 3 w' w.heap.size (fun k_ => some k_ ≠ (v0_ : Value).ownBlock ∧ some k_ ≠ (v2_ : Value).ownBlock) v4_ r5 ∧ Below w.heap.size w w' := by
 have hu66 := Try.underlying66
 have hu34 := Try.underlying34
 have HR0_0 := xm hr0_0
 have HC0_0 := xm hc0_0
 clear hr0_0 hc0_0
 have HR0_2 := xm hr0_2
 have HC0_2 := xm hc0_2
 clear hr0_2 hc0_2
 have HR0_3 := xm hr0_3
 have HC0_3 := xm hc0_3
 clear hr0_3 hc0_3
 have HR0_4 := xm hr0_4
 have HC0_4 := xm hc0_4
 clear hr0_4 hc0_4
 have HB := xm (Below.refl w.heap.size w)
 have H : ((laws_toIntS.f k l0_0).bind fun t520 => ((laws_toIntS.f k l0_2).bind fun t523 => ((laws_toPreparedS.f k l0_3).bind fun t526 => ((laws_toIntS.f k l0_4).bind fun t529 => (some (t520, a0_1, t523, t526, t529, a0_5, a0_6)))))) = some (r1, r2, r3, r4, r5, r6, r7) := h
 clear h
 replace H := Option.bind_eq_some_iff.mp H
 obtain ⟨t520, A20, H⟩ := H
 replace H : ((laws_toIntS.f k l0_2).bind fun t523 => ((laws_toPreparedS.f k l0_3).bind fun t526 => ((laws_toIntS.f k l0_4).bind fun t529 => (some (t520, a0_1, t523, t526, t529, a0_5, a0_6))))) = some (r1, r2, r3, r4, r5, r6, r7) := H
 have A2 := xm A20
 clear A20
 replace H := Option.bind_eq_some_iff.mp H
 obtain ⟨t523, A30, H⟩ := H
 replace H : ((laws_toPreparedS.f k l0_3).bind fun t526 => ((laws_toIntS.f k l0_4).bind fun t529 => (some (t520, a0_1, t523, t526, t529, a0_5, a0_6)))) = some (r1, r2, r3, r4, r5, r6, r7) := H
 have A3 := xm A30
 clear A30
 replace H := Option.bind_eq_some_iff.mp H
 obtain ⟨t526, A40, H⟩ := H
 replace H : ((laws_toIntS.f k l0_4).bind fun t529 => (some (t520, a0_1, t523, t526, t529, a0_5, a0_6))) = some (r1, r2, r3, r4, r5, r6, r7) := H
 have A4 := xm A40
 clear A40
 replace H := Option.bind_eq_some_iff.mp H
 obtain ⟨t529, A50, H⟩ := H
 replace H : (some (t520, a0_1, t523, t526, t529, a0_5, a0_6)) = some (r1, r2, r3, r4, r5, r6, r7) := H
 have A5 := xm A50
 clear A50
 simp only [Option.some.injEq, Prod.mk.injEq] at H
 obtain ⟨rfl, rfl, rfl, rfl, rfl, rfl, rfl⟩ := H
 go_enter Try.func47, Try.ntmps47
 go_wp2_with (first | ((with_reducible refine gate_dst (N := 1) rfl ?_); refine box_event ?hg (N := 1) ?hd (cs := #[.slice A0_0 l0_0.length c0_0, .int .i64 a0_1, .slice A0_2 l0_2.length c0_2, .slice A0_3 l0_3.length c0_3, .slice A0_4 l0_4.length c0_4, .int .i64 a0_5, .int .i64 a0_6]) (t := 66) ?hr ?_; (case hd => rfl); (case hg => rfl); (case hr => first | (go_simp; done) | (go_simp; rfl)); intro gb517 hg w6 hbox hb; have n0_ := xm (below_step (by repeat (first | (with_reducible first | exact HB.out | apply xa | apply xn | apply xd) | exact HB.out)) hb); have n1_ := xm (hbox); have n2_ := xm ((by rw [hg]; exact (xz (by repeat (first | (with_reducible first | exact HB.out | apply xa | apply xn | apply xd) | exact HB.out))) : w.heap.size ≤ gb517)); have n3_ := xm ((by rw [hg]; exact (xz (by repeat (first | (with_reducible first | exact HB.out | apply xa | apply xn | apply xd) | exact HB.out))) : w.heap.size ≤ gb517)); clear HB; have HB := n0_; have BK517 := n1_; have GW517 := n2_; have GE517 := n3_; clear n0_ n1_ n2_ n3_; clear hb hbox hg) | ((with_reducible refine gate_dst (N := 2) rfl ?_); refine box_event ?hg (N := 2) ?hd (cs := #[.slice none 0 0, .int .i64 0, .slice none 0 0, .slice none 0 0, .slice none 0 0, .int .i64 0, .int .i64 0]) (t := 34) ?hr ?_; (case hd => rfl); (case hg => rfl); (case hr => first | (go_simp; done) | (go_simp; rfl)); intro gb518 hg w7 hbox hb; have n0_ := xm (blk_below (g := gb517) (o := .cells #[.slice A0_0 l0_0.length c0_0, .int .i64 a0_1, .slice A0_2 l0_2.length c0_2, .slice A0_3 l0_3.length c0_3, .slice A0_4 l0_4.length c0_4, .int .i64 a0_5, .int .i64 a0_6] 66 (0, 0)) (by (with_reducible repeat (first | refine xq ?_ _ | refine xr ?_ | refine xo ?_ _)); exact BK517.out) hb); have n1_ := xm (below_step (by repeat (first | (with_reducible first | exact HB.out | apply xa | apply xn | apply xd | refine xt ?_ GE517.out) | exact HB.out)) hb); have n2_ := xm (hbox); have n3_ := xm ((by rw [hg]; exact (xz (by repeat (first | (with_reducible first | exact HB.out | apply xa | apply xn | apply xd | refine xt ?_ GE517.out) | exact HB.out))) : w.heap.size ≤ gb518)); have n4_ := xm ((by rw [hg]; exact (xz (by repeat (first | (with_reducible first | exact HB.out | apply xa | apply xn | apply xd | refine xt ?_ GE517.out) | exact HB.out))) : w.heap.size ≤ gb518)); have n5_ := xm ((by rw [hg]; exact Nat.ne_of_lt (blk_lt (g := gb517) (o := .cells #[.slice A0_0 l0_0.length c0_0, .int .i64 a0_1, .slice A0_2 l0_2.length c0_2, .slice A0_3 l0_3.length c0_3, .slice A0_4 l0_4.length c0_4, .int .i64 a0_5, .int .i64 a0_6] 66 (0, 0)) (by (with_reducible repeat (first | refine xq ?_ _ | refine xr ?_ | refine xo ?_ _)); exact BK517.out)) : gb517 ≠ gb518)); have n6_ := xm ((by rw [hg]; exact Nat.ne_of_gt (blk_lt (g := gb517) (o := .cells #[.slice A0_0 l0_0.length c0_0, .int .i64 a0_1, .slice A0_2 l0_2.length c0_2, .slice A0_3 l0_3.length c0_3, .slice A0_4 l0_4.length c0_4, .int .i64 a0_5, .int .i64 a0_6] 66 (0, 0)) (by (with_reducible repeat (first | refine xq ?_ _ | refine xr ?_ | refine xo ?_ _)); exact BK517.out)) : gb518 ≠ gb517)); clear BK517; clear HB; have BK517 := n0_; have HB := n1_; have BK518 := n2_; have GW518 := n3_; have GE518 := n4_; have NB517_518 := n5_; have NB518_517 := n6_; clear n0_ n1_ n2_ n3_ n4_ n5_ n6_; clear hb hbox hg) | ((with_reducible refine gate_dst (N := 3) rfl ?_); refine box_event ?hg (N := 3) ?hd (cs := #[.slice none 0 0, .int .i64 0, .slice none 0 0, .slice none 0 0, .slice none 0 0, .int .i64 0, .int .i64 0]) (t := 34) ?hr ?_; (case hd => rfl); (case hg => rfl); (case hr => first | (go_simp; done) | (go_simp; rfl)); intro gb519 hg w8 hbox hb; have n0_ := xm (blk_below (g := gb517) (o := .cells #[.slice A0_0 l0_0.length c0_0, .int .i64 a0_1, .slice A0_2 l0_2.length c0_2, .slice A0_3 l0_3.length c0_3, .slice A0_4 l0_4.length c0_4, .int .i64 a0_5, .int .i64 a0_6] 66 (0, 0)) (by (with_reducible repeat (first | refine xq ?_ _ | refine xr ?_ | refine xo ?_ _)); exact BK517.out) hb); have n1_ := xm (blk_below (g := gb518) (o := .cells #[.slice none 0 0, .int .i64 0, .slice none 0 0, .slice none 0 0, .slice none 0 0, .int .i64 0, .int .i64 0] 34 (0, 0)) (by (with_reducible repeat (first | refine xq ?_ _ | refine xr ?_ | refine xo ?_ _)); exact BK518.out) hb); have n2_ := xm (below_step (by repeat (first | (with_reducible first | exact HB.out | apply xa | apply xn | apply xd | refine xt ?_ GE517.out | refine xt ?_ GE518.out) | exact HB.out)) hb); have n3_ := xm (hbox); have n4_ := xm ((by rw [hg]; exact (xz (by repeat (first | (with_reducible first | exact HB.out | apply xa | apply xn | apply xd | refine xt ?_ GE517.out | refine xt ?_ GE518.out) | exact HB.out))) : w.heap.size ≤ gb519)); have n5_ := xm ((by rw [hg]; exact (xz (by repeat (first | (with_reducible first | exact HB.out | apply xa | apply xn | apply xd | refine xt ?_ GE517.out | refine xt ?_ GE518.out) | exact HB.out))) : w.heap.size ≤ gb519)); have n6_ := xm ((by rw [hg]; exact Nat.ne_of_lt (blk_lt (g := gb517) (o := .cells #[.slice A0_0 l0_0.length c0_0, .int .i64 a0_1, .slice A0_2 l0_2.length c0_2, .slice A0_3 l0_3.length c0_3, .slice A0_4 l0_4.length c0_4, .int .i64 a0_5, .int .i64 a0_6] 66 (0, 0)) (by (with_reducible repeat (first | refine xq ?_ _ | refine xr ?_ | refine xo ?_ _)); exact BK517.out)) : gb517 ≠ gb519)); have n7_ := xm ((by rw [hg]; exact Nat.ne_of_gt (blk_lt (g := gb517) (o := .cells #[.slice A0_0 l0_0.length c0_0, .int .i64 a0_1, .slice A0_2 l0_2.length c0_2, .slice A0_3 l0_3.length c0_3, .slice A0_4 l0_4.length c0_4, .int .i64 a0_5, .int .i64 a0_6] 66 (0, 0)) (by (with_reducible repeat (first | refine xq ?_ _ | refine xr ?_ | refine xo ?_ _)); exact BK517.out)) : gb519 ≠ gb517)); have n8_ := xm ((by rw [hg]; exact Nat.ne_of_lt (blk_lt (g := gb518) (o := .cells #[.slice none 0 0, .int .i64 0, .slice none 0 0, .slice none 0 0, .slice none 0 0, .int .i64 0, .int .i64 0] 34 (0, 0)) (by (with_reducible repeat (first | refine xq ?_ _ | refine xr ?_ | refine xo ?_ _)); exact BK518.out)) : gb518 ≠ gb519)); have n9_ := xm ((by rw [hg]; exact Nat.ne_of_gt (blk_lt (g := gb518) (o := .cells #[.slice none 0 0, .int .i64 0, .slice none 0 0, .slice none 0 0, .slice none 0 0, .int .i64 0, .int .i64 0] 34 (0, 0)) (by (with_reducible repeat (first | refine xq ?_ _ | refine xr ?_ | refine xo ?_ _)); exact BK518.out)) : gb519 ≠ gb518)); clear BK517; clear BK518; clear HB; have BK517 := n0_; have BK518 := n1_; have HB := n2_; have BK519 := n3_; have GW519 := n4_; have GE519 := n5_; have NB517_519 := n6_; have NB519_517 := n7_; have NB518_519 := n8_; have NB519_518 := n9_; clear n0_ n1_ n2_ n3_ n4_ n5_ n6_ n7_ n8_ n9_; clear hb hbox hg; have hnb9 := NB517_518.out; have hnc9 := NB518_517.out; have hnb10 := NB517_519.out; have hnc10 := NB519_517.out; have hcz11_0 : w8.cell? ⟨gb517, 0, none⟩ = some (.slice A0_0 l0_0.length c0_0) := (xc BK517.out 0).trans rfl; have hcz11_1 : w8.cell? ⟨gb517, 1, none⟩ = some (.int .i64 a0_1) := (xc BK517.out 1).trans rfl; have hcz11_2 : w8.cell? ⟨gb517, 2, none⟩ = some (.slice A0_2 l0_2.length c0_2) := (xc BK517.out 2).trans rfl; have hcz11_3 : w8.cell? ⟨gb517, 3, none⟩ = some (.slice A0_3 l0_3.length c0_3) := (xc BK517.out 3).trans rfl; have hcz11_4 : w8.cell? ⟨gb517, 4, none⟩ = some (.slice A0_4 l0_4.length c0_4) := (xc BK517.out 4).trans rfl; have hcz11_5 : w8.cell? ⟨gb517, 5, none⟩ = some (.int .i64 a0_5) := (xc BK517.out 5).trans rfl; have hcz11_6 : w8.cell? ⟨gb517, 6, none⟩ = some (.int .i64 a0_6) := (xc BK517.out 6).trans rfl; have hfz11_0 := xf BK517.out 0; have hfz11_1 := xf BK517.out 1; have hfz11_2 := xf BK517.out 2; have hfz11_3 := xf BK517.out 3; have hfz11_4 := xf BK517.out 4; have hfz11_5 := xf BK517.out 5; have hfz11_6 := xf BK517.out 6) | ((with_reducible refine gate_callee (f := 26) rfl ?_); refine goesL_ (some 6) rfl rfl Try.func26 (by kernel_rfl) rfl #[.slice A0_0 l0_0.length c0_0] rfl (by (try simp only [List.map_toArray, List.map_cons, List.map_nil]); first | done | rfl | (simp only [List.length_drop, List.length_take]; rfl)) ?_; (with_reducible refine (laws_toIntS.calls k _ _ l0_0 t520 _ ?side1 ?side2 A2.out).mono ?_); (case side1 => repeat (first | exact (Kd.C_below HR0_0.out HB.out) | (with_reducible refine Kd.C_alloc ?_ _) | (with_reducible refine Kd.C_drewN ?_ _) | (with_reducible refine Kd.C_drew ?_))); (case side2 => exact HC0_0.out); rintro e w12 ⟨v521, rfl, ho0, hb⟩; refine ⟨_, rfl, ?_⟩; have n0_ := xm (Kd.R_lower ho0 (xz (by repeat (first | (with_reducible first | exact HB.out | apply xa | apply xn | apply xd | refine xt ?_ GE517.out | refine xt ?_ GE518.out | refine xt ?_ GE519.out) | exact HB.out)))); have n1_ := xm (blk_below (g := gb517) (o := .cells #[.slice A0_0 l0_0.length c0_0, .int .i64 a0_1, .slice A0_2 l0_2.length c0_2, .slice A0_3 l0_3.length c0_3, .slice A0_4 l0_4.length c0_4, .int .i64 a0_5, .int .i64 a0_6] 66 (0, 0)) (by (with_reducible repeat (first | refine xq ?_ _ | refine xr ?_ | refine xo ?_ _)); exact BK517.out) hb); have n2_ := xm (blk_below (g := gb518) (o := .cells #[.slice none 0 0, .int .i64 0, .slice none 0 0, .slice none 0 0, .slice none 0 0, .int .i64 0, .int .i64 0] 34 (0, 0)) (by (with_reducible repeat (first | refine xq ?_ _ | refine xr ?_ | refine xo ?_ _)); exact BK518.out) hb); have n3_ := xm (blk_below (g := gb519) (o := .cells #[.slice none 0 0, .int .i64 0, .slice none 0 0, .slice none 0 0, .slice none 0 0, .int .i64 0, .int .i64 0] 34 (0, 0)) (by (with_reducible repeat (first | refine xq ?_ _ | refine xr ?_ | refine xo ?_ _)); exact BK519.out) hb); have n4_ := xm (below_step (by repeat (first | (with_reducible first | exact HB.out | apply xa | apply xn | apply xd | refine xt ?_ GE517.out | refine xt ?_ GE518.out | refine xt ?_ GE519.out) | exact HB.out)) hb); clear BK517; clear BK518; clear BK519; clear HB; have HO522 := n0_; have BK517 := n1_; have BK518 := n2_; have BK519 := n3_; have HB := n4_; clear n0_ n1_ n2_ n3_ n4_; (try clear hb); (try clear hb2); (try clear hk); (try clear hi); (try clear ho0); obtain ⟨Ao13, co13, eo13⟩ := Kd.R_slice HO522.out; subst eo13; have hnb14 := NB519_518.out; have hnc14 := NB518_519.out; have hcz15_0 : w12.cell? ⟨gb519, 0, none⟩ = some (.slice none 0 0) := (xc BK519.out 0).trans rfl; have hcz15_1 : w12.cell? ⟨gb519, 1, none⟩ = some (.int .i64 0) := (xc BK519.out 1).trans rfl; have hcz15_2 : w12.cell? ⟨gb519, 2, none⟩ = some (.slice none 0 0) := (xc BK519.out 2).trans rfl; have hcz15_3 : w12.cell? ⟨gb519, 3, none⟩ = some (.slice none 0 0) := (xc BK519.out 3).trans rfl; have hcz15_4 : w12.cell? ⟨gb519, 4, none⟩ = some (.slice none 0 0) := (xc BK519.out 4).trans rfl; have hcz15_5 : w12.cell? ⟨gb519, 5, none⟩ = some (.int .i64 0) := (xc BK519.out 5).trans rfl; have hcz15_6 : w12.cell? ⟨gb519, 6, none⟩ = some (.int .i64 0) := (xc BK519.out 6).trans rfl; have hfz15_0 := xf BK519.out 0; have hfz15_1 := xf BK519.out 1; have hfz15_2 := xf BK519.out 2; have hfz15_3 := xf BK519.out 3; have hfz15_4 := xf BK519.out 4; have hfz15_5 := xf BK519.out 5; have hfz15_6 := xf BK519.out 6; have hcz16_0 : w12.cell? ⟨gb517, 0, none⟩ = some (.slice A0_0 l0_0.length c0_0) := (xc BK517.out 0).trans rfl; have hcz16_1 : w12.cell? ⟨gb517, 1, none⟩ = some (.int .i64 a0_1) := (xc BK517.out 1).trans rfl; have hcz16_2 : w12.cell? ⟨gb517, 2, none⟩ = some (.slice A0_2 l0_2.length c0_2) := (xc BK517.out 2).trans rfl; have hcz16_3 : w12.cell? ⟨gb517, 3, none⟩ = some (.slice A0_3 l0_3.length c0_3) := (xc BK517.out 3).trans rfl; have hcz16_4 : w12.cell? ⟨gb517, 4, none⟩ = some (.slice A0_4 l0_4.length c0_4) := (xc BK517.out 4).trans rfl; have hcz16_5 : w12.cell? ⟨gb517, 5, none⟩ = some (.int .i64 a0_5) := (xc BK517.out 5).trans rfl; have hcz16_6 : w12.cell? ⟨gb517, 6, none⟩ = some (.int .i64 a0_6) := (xc BK517.out 6).trans rfl; have hfz16_0 := xf BK517.out 0; have hfz16_1 := xf BK517.out 1; have hfz16_2 := xf BK517.out 2; have hfz16_3 := xf BK517.out 3; have hfz16_4 := xf BK517.out 4; have hfz16_5 := xf BK517.out 5; have hfz16_6 := xf BK517.out 6) | ((with_reducible refine gate_callee (f := 26) rfl ?_); refine goesL_ (some 13) rfl rfl Try.func26 (by kernel_rfl) rfl #[.slice A0_2 l0_2.length c0_2] rfl (by (try simp only [List.map_toArray, List.map_cons, List.map_nil]); first | done | rfl | (simp only [List.length_drop, List.length_take]; rfl)) ?_; (with_reducible refine (laws_toIntS.calls k _ _ l0_2 t523 _ ?side1 ?side2 A3.out).mono ?_); (case side1 => exact Kd.C_below HR0_2.out (by repeat (first | (with_reducible first | exact HB.out | apply xa | apply xn | apply xd | refine xt ?_ GE517.out | refine xt ?_ GE518.out | refine xt ?_ GE519.out) | exact HB.out))); (case side2 => exact HC0_2.out); rintro e w17 ⟨v524, rfl, ho0, hb⟩; refine ⟨_, rfl, ?_⟩; have n0_ := xm (Kd.R_elder' (by (with_reducible repeat (first | apply Kd.R_alloc | apply Kd.R_drewN | apply Kd.R_drew)); exact (Kd.R_mono (Kd.R_far (p := ⟨gb519, 1, none⟩) (Kd.R_far (p := ⟨gb519, 0, none⟩) (Kd.R_types HO522.out BK519.out (by decide)) (fun _ hk => hk.2) (.slice Ao13 t520.length co13)) (fun _ hk => hk.2) (.int .i64 a0_1)) (fun _ h_ => h_.1))) (Kd.R_base ho0) hb); have n1_ := xm (Kd.R_lower (Kd.R_new' ho0 (Kd.R_lt (by (with_reducible repeat (first | apply Kd.R_alloc | apply Kd.R_drewN | apply Kd.R_drew)); exact (Kd.R_mono (Kd.R_far (p := ⟨gb519, 1, none⟩) (Kd.R_far (p := ⟨gb519, 0, none⟩) (Kd.R_types HO522.out BK519.out (by decide)) (fun _ hk => hk.2) (.slice Ao13 t520.length co13)) (fun _ hk => hk.2) (.int .i64 a0_1)) (fun _ h_ => h_.1))))) (xz (by repeat (first | (with_reducible first | exact HB.out | apply xa | apply xn | apply xd | refine xt ?_ GE517.out | refine xt ?_ GE518.out | refine xt ?_ GE519.out) | exact HB.out)))); have n2_ := xm (blk_below (g := gb517) (o := .cells #[.slice A0_0 l0_0.length c0_0, .int .i64 a0_1, .slice A0_2 l0_2.length c0_2, .slice A0_3 l0_3.length c0_3, .slice A0_4 l0_4.length c0_4, .int .i64 a0_5, .int .i64 a0_6] 66 (0, 0)) (by (with_reducible repeat (first | refine xq ?_ _ | refine xr ?_ | refine xo ?_ _)); refine blk_far ?_ NB517_519.out _; (with_reducible repeat (first | refine xq ?_ _ | refine xr ?_ | refine xo ?_ _)); refine blk_far ?_ NB517_519.out _; (with_reducible repeat (first | refine xq ?_ _ | refine xr ?_ | refine xo ?_ _)); exact BK517.out) hb); have n3_ := xm (blk_below (g := gb518) (o := .cells #[.slice none 0 0, .int .i64 0, .slice none 0 0, .slice none 0 0, .slice none 0 0, .int .i64 0, .int .i64 0] 34 (0, 0)) (by (with_reducible repeat (first | refine xq ?_ _ | refine xr ?_ | refine xo ?_ _)); refine blk_far ?_ NB518_519.out _; (with_reducible repeat (first | refine xq ?_ _ | refine xr ?_ | refine xo ?_ _)); refine blk_far ?_ NB518_519.out _; (with_reducible repeat (first | refine xq ?_ _ | refine xr ?_ | refine xo ?_ _)); exact BK518.out) hb); have n4_ := xm (blk_below (g := gb519) (o := .cells #[.slice Ao13 t520.length co13, .int .i64 a0_1, .slice none 0 0, .slice none 0 0, .slice none 0 0, .int .i64 0, .int .i64 0] 34 (0, 0)) (by (with_reducible repeat (first | refine xq ?_ _ | refine xr ?_ | refine xo ?_ _)); refine blk_put (cs := #[.slice Ao13 t520.length co13, .int .i64 0, .slice none 0 0, .slice none 0 0, .slice none 0 0, .int .i64 0, .int .i64 0]) ?_ 1 _ rfl; (with_reducible repeat (first | refine xq ?_ _ | refine xr ?_ | refine xo ?_ _)); refine blk_put (cs := #[.slice none 0 0, .int .i64 0, .slice none 0 0, .slice none 0 0, .slice none 0 0, .int .i64 0, .int .i64 0]) ?_ 0 _ rfl; (with_reducible repeat (first | refine xq ?_ _ | refine xr ?_ | refine xo ?_ _)); exact BK519.out) hb); have n5_ := xm (below_step (by repeat (first | (with_reducible first | exact HB.out | apply xa | apply xn | apply xd | refine xt ?_ GE517.out | refine xt ?_ GE518.out | refine xt ?_ GE519.out) | exact HB.out)) hb); clear HO522; clear BK517; clear BK518; clear BK519; clear HB; have HO522 := n0_; have HO525 := n1_; have BK517 := n2_; have BK518 := n3_; have BK519 := n4_; have HB := n5_; clear n0_ n1_ n2_ n3_ n4_ n5_; (try clear hb); (try clear hb2); (try clear hk); (try clear hi); (try clear ho0); obtain ⟨Ao18, co18, eo18⟩ := Kd.R_slice HO525.out; subst eo18; have hcz19_0 : w17.cell? ⟨gb519, 0, none⟩ = some (.slice Ao13 t520.length co13) := (xc BK519.out 0).trans rfl; have hcz19_1 : w17.cell? ⟨gb519, 1, none⟩ = some (.int .i64 a0_1) := (xc BK519.out 1).trans rfl; have hcz19_2 : w17.cell? ⟨gb519, 2, none⟩ = some (.slice none 0 0) := (xc BK519.out 2).trans rfl; have hcz19_3 : w17.cell? ⟨gb519, 3, none⟩ = some (.slice none 0 0) := (xc BK519.out 3).trans rfl; have hcz19_4 : w17.cell? ⟨gb519, 4, none⟩ = some (.slice none 0 0) := (xc BK519.out 4).trans rfl; have hcz19_5 : w17.cell? ⟨gb519, 5, none⟩ = some (.int .i64 0) := (xc BK519.out 5).trans rfl; have hcz19_6 : w17.cell? ⟨gb519, 6, none⟩ = some (.int .i64 0) := (xc BK519.out 6).trans rfl; have hfz19_0 := xf BK519.out 0; have hfz19_1 := xf BK519.out 1; have hfz19_2 := xf BK519.out 2; have hfz19_3 := xf BK519.out 3; have hfz19_4 := xf BK519.out 4; have hfz19_5 := xf BK519.out 5; have hfz19_6 := xf BK519.out 6; have hcz20_0 : w17.cell? ⟨gb517, 0, none⟩ = some (.slice A0_0 l0_0.length c0_0) := (xc BK517.out 0).trans rfl; have hcz20_1 : w17.cell? ⟨gb517, 1, none⟩ = some (.int .i64 a0_1) := (xc BK517.out 1).trans rfl; have hcz20_2 : w17.cell? ⟨gb517, 2, none⟩ = some (.slice A0_2 l0_2.length c0_2) := (xc BK517.out 2).trans rfl; have hcz20_3 : w17.cell? ⟨gb517, 3, none⟩ = some (.slice A0_3 l0_3.length c0_3) := (xc BK517.out 3).trans rfl; have hcz20_4 : w17.cell? ⟨gb517, 4, none⟩ = some (.slice A0_4 l0_4.length c0_4) := (xc BK517.out 4).trans rfl; have hcz20_5 : w17.cell? ⟨gb517, 5, none⟩ = some (.int .i64 a0_5) := (xc BK517.out 5).trans rfl; have hcz20_6 : w17.cell? ⟨gb517, 6, none⟩ = some (.int .i64 a0_6) := (xc BK517.out 6).trans rfl; have hfz20_0 := xf BK517.out 0; have hfz20_1 := xf BK517.out 1; have hfz20_2 := xf BK517.out 2; have hfz20_3 := xf BK517.out 3; have hfz20_4 := xf BK517.out 4; have hfz20_5 := xf BK517.out 5; have hfz20_6 := xf BK517.out 6) | ((with_reducible refine gate_callee (f := 110) rfl ?_); refine goesL_ (some 17) rfl rfl Try.func110 (by kernel_rfl) rfl #[.slice A0_3 l0_3.length c0_3] rfl (by (try simp only [List.map_toArray, List.map_cons, List.map_nil]); first | done | rfl | (simp only [List.length_drop, List.length_take]; rfl)) ?_; (with_reducible refine (laws_toPreparedS.calls k _ _ l0_3 t526 _ ?side1 ?side2 A4.out).mono ?_); (case side1 => exact Kd.C_below HR0_3.out (by repeat (first | (with_reducible first | exact HB.out | apply xa | apply xn | apply xd | refine xt ?_ GE517.out | refine xt ?_ GE518.out | refine xt ?_ GE519.out) | exact HB.out))); (case side2 => exact HC0_3.out); rintro e w21 ⟨v527, rfl, ho0, hb⟩; refine ⟨_, rfl, ?_⟩; have n0_ := xm (Kd.R_below (by (with_reducible repeat (first | apply Kd.R_alloc | apply Kd.R_drewN | apply Kd.R_drew)); exact (Kd.R_mono (Kd.R_far (p := ⟨gb519, 2, none⟩) (Kd.R_types HO522.out BK519.out (by decide)) (fun _ hk => hk.2) (.slice Ao18 t523.length co18)) (fun _ h_ => h_.1))) hb); have n1_ := xm (Kd.R_below (by (with_reducible repeat (first | apply Kd.R_alloc | apply Kd.R_drewN | apply Kd.R_drew)); exact (Kd.R_mono (Kd.R_far (p := ⟨gb519, 2, none⟩) (Kd.R_types HO525.out BK519.out (by decide)) (fun _ hk => hk.2) (.slice Ao18 t523.length co18)) (fun _ h_ => h_.1))) hb); have n2_ := xm (Kd.S_lower (Kd.S_new' (Kd.S_new' ho0 (Kd.R_lt (by (with_reducible repeat (first | apply Kd.R_alloc | apply Kd.R_drewN | apply Kd.R_drew)); exact (Kd.R_mono (Kd.R_far (p := ⟨gb519, 2, none⟩) (Kd.R_types HO522.out BK519.out (by decide)) (fun _ hk => hk.2) (.slice Ao18 t523.length co18)) (fun _ h_ => h_.1))))) (Kd.R_lt (by (with_reducible repeat (first | apply Kd.R_alloc | apply Kd.R_drewN | apply Kd.R_drew)); exact (Kd.R_mono (Kd.R_far (p := ⟨gb519, 2, none⟩) (Kd.R_types HO525.out BK519.out (by decide)) (fun _ hk => hk.2) (.slice Ao18 t523.length co18)) (fun _ h_ => h_.1))))) (xz (by repeat (first | (with_reducible first | exact HB.out | apply xa | apply xn | apply xd | refine xt ?_ GE517.out | refine xt ?_ GE518.out | refine xt ?_ GE519.out) | exact HB.out)))); have n3_ := xm (blk_below (g := gb517) (o := .cells #[.slice A0_0 l0_0.length c0_0, .int .i64 a0_1, .slice A0_2 l0_2.length c0_2, .slice A0_3 l0_3.length c0_3, .slice A0_4 l0_4.length c0_4, .int .i64 a0_5, .int .i64 a0_6] 66 (0, 0)) (by (with_reducible repeat (first | refine xq ?_ _ | refine xr ?_ | refine xo ?_ _)); refine blk_far ?_ NB517_519.out _; (with_reducible repeat (first | refine xq ?_ _ | refine xr ?_ | refine xo ?_ _)); exact BK517.out) hb); have n4_ := xm (blk_below (g := gb518) (o := .cells #[.slice none 0 0, .int .i64 0, .slice none 0 0, .slice none 0 0, .slice none 0 0, .int .i64 0, .int .i64 0] 34 (0, 0)) (by (with_reducible repeat (first | refine xq ?_ _ | refine xr ?_ | refine xo ?_ _)); refine blk_far ?_ NB518_519.out _; (with_reducible repeat (first | refine xq ?_ _ | refine xr ?_ | refine xo ?_ _)); exact BK518.out) hb); have n5_ := xm (blk_below (g := gb519) (o := .cells #[.slice Ao13 t520.length co13, .int .i64 a0_1, .slice Ao18 t523.length co18, .slice none 0 0, .slice none 0 0, .int .i64 0, .int .i64 0] 34 (0, 0)) (by (with_reducible repeat (first | refine xq ?_ _ | refine xr ?_ | refine xo ?_ _)); refine blk_put (cs := #[.slice Ao13 t520.length co13, .int .i64 a0_1, .slice none 0 0, .slice none 0 0, .slice none 0 0, .int .i64 0, .int .i64 0]) ?_ 2 _ rfl; (with_reducible repeat (first | refine xq ?_ _ | refine xr ?_ | refine xo ?_ _)); exact BK519.out) hb); have n6_ := xm (below_step (by repeat (first | (with_reducible first | exact HB.out | apply xa | apply xn | apply xd | refine xt ?_ GE517.out | refine xt ?_ GE518.out | refine xt ?_ GE519.out) | exact HB.out)) hb); clear HO522; clear HO525; clear BK517; clear BK518; clear BK519; clear HB; have HO522 := n0_; have HO525 := n1_; have HO528 := n2_; have BK517 := n3_; have BK518 := n4_; have BK519 := n5_; have HB := n6_; clear n0_ n1_ n2_ n3_ n4_ n5_ n6_; (try clear hb); (try clear hb2); (try clear hk); (try clear hi); (try clear ho0); obtain ⟨Ao22, co22, eo22⟩ := Kd.S_slice HO528.out; subst eo22; have hcz23_0 : w21.cell? ⟨gb519, 0, none⟩ = some (.slice Ao13 t520.length co13) := (xc BK519.out 0).trans rfl; have hcz23_1 : w21.cell? ⟨gb519, 1, none⟩ = some (.int .i64 a0_1) := (xc BK519.out 1).trans rfl; have hcz23_2 : w21.cell? ⟨gb519, 2, none⟩ = some (.slice Ao18 t523.length co18) := (xc BK519.out 2).trans rfl; have hcz23_3 : w21.cell? ⟨gb519, 3, none⟩ = some (.slice none 0 0) := (xc BK519.out 3).trans rfl; have hcz23_4 : w21.cell? ⟨gb519, 4, none⟩ = some (.slice none 0 0) := (xc BK519.out 4).trans rfl; have hcz23_5 : w21.cell? ⟨gb519, 5, none⟩ = some (.int .i64 0) := (xc BK519.out 5).trans rfl; have hcz23_6 : w21.cell? ⟨gb519, 6, none⟩ = some (.int .i64 0) := (xc BK519.out 6).trans rfl; have hfz23_0 := xf BK519.out 0; have hfz23_1 := xf BK519.out 1; have hfz23_2 := xf BK519.out 2; have hfz23_3 := xf BK519.out 3; have hfz23_4 := xf BK519.out 4; have hfz23_5 := xf BK519.out 5; have hfz23_6 := xf BK519.out 6; have hcz24_0 : w21.cell? ⟨gb517, 0, none⟩ = some (.slice A0_0 l0_0.length c0_0) := (xc BK517.out 0).trans rfl; have hcz24_1 : w21.cell? ⟨gb517, 1, none⟩ = some (.int .i64 a0_1) := (xc BK517.out 1).trans rfl; have hcz24_2 : w21.cell? ⟨gb517, 2, none⟩ = some (.slice A0_2 l0_2.length c0_2) := (xc BK517.out 2).trans rfl; have hcz24_3 : w21.cell? ⟨gb517, 3, none⟩ = some (.slice A0_3 l0_3.length c0_3) := (xc BK517.out 3).trans rfl; have hcz24_4 : w21.cell? ⟨gb517, 4, none⟩ = some (.slice A0_4 l0_4.length c0_4) := (xc BK517.out 4).trans rfl; have hcz24_5 : w21.cell? ⟨gb517, 5, none⟩ = some (.int .i64 a0_5) := (xc BK517.out 5).trans rfl; have hcz24_6 : w21.cell? ⟨gb517, 6, none⟩ = some (.int .i64 a0_6) := (xc BK517.out 6).trans rfl; have hfz24_0 := xf BK517.out 0; have hfz24_1 := xf BK517.out 1; have hfz24_2 := xf BK517.out 2; have hfz24_3 := xf BK517.out 3; have hfz24_4 := xf BK517.out 4; have hfz24_5 := xf BK517.out 5; have hfz24_6 := xf BK517.out 6) | ((with_reducible refine gate_callee (f := 26) rfl ?_); refine goesL_ (some 21) rfl rfl Try.func26 (by kernel_rfl) rfl #[.slice A0_4 l0_4.length c0_4] rfl (by (try simp only [List.map_toArray, List.map_cons, List.map_nil]); first | done | rfl | (simp only [List.length_drop, List.length_take]; rfl)) ?_; (with_reducible refine (laws_toIntS.calls k _ _ l0_4 t529 _ ?side1 ?side2 A5.out).mono ?_); (case side1 => exact Kd.C_below HR0_4.out (by repeat (first | (with_reducible first | exact HB.out | apply xa | apply xn | apply xd | refine xt ?_ GE517.out | refine xt ?_ GE518.out | refine xt ?_ GE519.out) | exact HB.out))); (case side2 => exact HC0_4.out); rintro e w25 ⟨v530, rfl, ho0, hb⟩; refine ⟨_, rfl, ?_⟩; have n0_ := xm (Kd.R_elder' (by (with_reducible repeat (first | apply Kd.R_alloc | apply Kd.R_drewN | apply Kd.R_drew)); exact (Kd.R_mono (Kd.R_far (p := ⟨gb519, 3, none⟩) (Kd.R_types HO522.out BK519.out (by decide)) (fun _ hk => hk.2) (.slice Ao22 t526.length co22)) (fun _ h_ => h_.1))) (Kd.R_base ho0) hb); have n1_ := xm (Kd.R_elder' (by (with_reducible repeat (first | apply Kd.R_alloc | apply Kd.R_drewN | apply Kd.R_drew)); exact (Kd.R_mono (Kd.R_far (p := ⟨gb519, 3, none⟩) (Kd.R_types HO525.out BK519.out (by decide)) (fun _ hk => hk.2) (.slice Ao22 t526.length co22)) (fun _ h_ => h_.1))) (Kd.R_base ho0) hb); have n2_ := xm (Kd.S_elder' (by (with_reducible repeat (first | apply Kd.S_alloc | apply Kd.S_drewN | apply Kd.S_drew)); exact (Kd.S_mono (Kd.S_far (p := ⟨gb519, 3, none⟩) (Kd.S_types HO528.out BK519.out (by decide)) (fun _ hk => hk.2) (.slice Ao22 t526.length co22)) (fun _ h_ => h_.1))) (Kd.R_base ho0) hb); have n3_ := xm (Kd.R_lower (Kd.R_new' (Kd.R_new' ho0 (Kd.R_lt (by (with_reducible repeat (first | apply Kd.R_alloc | apply Kd.R_drewN | apply Kd.R_drew)); exact (Kd.R_mono (Kd.R_far (p := ⟨gb519, 3, none⟩) (Kd.R_types HO522.out BK519.out (by decide)) (fun _ hk => hk.2) (.slice Ao22 t526.length co22)) (fun _ h_ => h_.1))))) (Kd.R_lt (by (with_reducible repeat (first | apply Kd.R_alloc | apply Kd.R_drewN | apply Kd.R_drew)); exact (Kd.R_mono (Kd.R_far (p := ⟨gb519, 3, none⟩) (Kd.R_types HO525.out BK519.out (by decide)) (fun _ hk => hk.2) (.slice Ao22 t526.length co22)) (fun _ h_ => h_.1))))) (xz (by repeat (first | (with_reducible first | exact HB.out | apply xa | apply xn | apply xd | refine xt ?_ GE517.out | refine xt ?_ GE518.out | refine xt ?_ GE519.out) | exact HB.out)))); have n4_ := xm (blk_below (g := gb517) (o := .cells #[.slice A0_0 l0_0.length c0_0, .int .i64 a0_1, .slice A0_2 l0_2.length c0_2, .slice A0_3 l0_3.length c0_3, .slice A0_4 l0_4.length c0_4, .int .i64 a0_5, .int .i64 a0_6] 66 (0, 0)) (by (with_reducible repeat (first | refine xq ?_ _ | refine xr ?_ | refine xo ?_ _)); refine blk_far ?_ NB517_519.out _; (with_reducible repeat (first | refine xq ?_ _ | refine xr ?_ | refine xo ?_ _)); exact BK517.out) hb); have n5_ := xm (blk_below (g := gb518) (o := .cells #[.slice none 0 0, .int .i64 0, .slice none 0 0, .slice none 0 0, .slice none 0 0, .int .i64 0, .int .i64 0] 34 (0, 0)) (by (with_reducible repeat (first | refine xq ?_ _ | refine xr ?_ | refine xo ?_ _)); refine blk_far ?_ NB518_519.out _; (with_reducible repeat (first | refine xq ?_ _ | refine xr ?_ | refine xo ?_ _)); exact BK518.out) hb); have n6_ := xm (blk_below (g := gb519) (o := .cells #[.slice Ao13 t520.length co13, .int .i64 a0_1, .slice Ao18 t523.length co18, .slice Ao22 t526.length co22, .slice none 0 0, .int .i64 0, .int .i64 0] 34 (0, 0)) (by (with_reducible repeat (first | refine xq ?_ _ | refine xr ?_ | refine xo ?_ _)); refine blk_put (cs := #[.slice Ao13 t520.length co13, .int .i64 a0_1, .slice Ao18 t523.length co18, .slice none 0 0, .slice none 0 0, .int .i64 0, .int .i64 0]) ?_ 3 _ rfl; (with_reducible repeat (first | refine xq ?_ _ | refine xr ?_ | refine xo ?_ _)); exact BK519.out) hb); have n7_ := xm (below_step (by repeat (first | (with_reducible first | exact HB.out | apply xa | apply xn | apply xd | refine xt ?_ GE517.out | refine xt ?_ GE518.out | refine xt ?_ GE519.out) | exact HB.out)) hb); clear HO522; clear HO525; clear HO528; clear BK517; clear BK518; clear BK519; clear HB; have HO522 := n0_; have HO525 := n1_; have HO528 := n2_; have HO531 := n3_; have BK517 := n4_; have BK518 := n5_; have BK519 := n6_; have HB := n7_; clear n0_ n1_ n2_ n3_ n4_ n5_ n6_ n7_; (try clear hb); (try clear hb2); (try clear hk); (try clear hi); (try clear ho0); obtain ⟨Ao26, co26, eo26⟩ := Kd.R_slice HO531.out; subst eo26; have hcz27_0 : w25.cell? ⟨gb519, 0, none⟩ = some (.slice Ao13 t520.length co13) := (xc BK519.out 0).trans rfl; have hcz27_1 : w25.cell? ⟨gb519, 1, none⟩ = some (.int .i64 a0_1) := (xc BK519.out 1).trans rfl; have hcz27_2 : w25.cell? ⟨gb519, 2, none⟩ = some (.slice Ao18 t523.length co18) := (xc BK519.out 2).trans rfl; have hcz27_3 : w25.cell? ⟨gb519, 3, none⟩ = some (.slice Ao22 t526.length co22) := (xc BK519.out 3).trans rfl; have hcz27_4 : w25.cell? ⟨gb519, 4, none⟩ = some (.slice none 0 0) := (xc BK519.out 4).trans rfl; have hcz27_5 : w25.cell? ⟨gb519, 5, none⟩ = some (.int .i64 0) := (xc BK519.out 5).trans rfl; have hcz27_6 : w25.cell? ⟨gb519, 6, none⟩ = some (.int .i64 0) := (xc BK519.out 6).trans rfl; have hfz27_0 := xf BK519.out 0; have hfz27_1 := xf BK519.out 1; have hfz27_2 := xf BK519.out 2; have hfz27_3 := xf BK519.out 3; have hfz27_4 := xf BK519.out 4; have hfz27_5 := xf BK519.out 5; have hfz27_6 := xf BK519.out 6; have hcz28_0 : w25.cell? ⟨gb517, 0, none⟩ = some (.slice A0_0 l0_0.length c0_0) := (xc BK517.out 0).trans rfl; have hcz28_1 : w25.cell? ⟨gb517, 1, none⟩ = some (.int .i64 a0_1) := (xc BK517.out 1).trans rfl; have hcz28_2 : w25.cell? ⟨gb517, 2, none⟩ = some (.slice A0_2 l0_2.length c0_2) := (xc BK517.out 2).trans rfl; have hcz28_3 : w25.cell? ⟨gb517, 3, none⟩ = some (.slice A0_3 l0_3.length c0_3) := (xc BK517.out 3).trans rfl; have hcz28_4 : w25.cell? ⟨gb517, 4, none⟩ = some (.slice A0_4 l0_4.length c0_4) := (xc BK517.out 4).trans rfl; have hcz28_5 : w25.cell? ⟨gb517, 5, none⟩ = some (.int .i64 a0_5) := (xc BK517.out 5).trans rfl; have hcz28_6 : w25.cell? ⟨gb517, 6, none⟩ = some (.int .i64 a0_6) := (xc BK517.out 6).trans rfl; have hfz28_0 := xf BK517.out 0; have hfz28_1 := xf BK517.out 1; have hfz28_2 := xf BK517.out 2; have hfz28_3 := xf BK517.out 3; have hfz28_4 := xf BK517.out 4; have hfz28_5 := xf BK517.out 5; have hfz28_6 := xf BK517.out 6; have hcz29_0 : w25.cell? ⟨gb518, 0, none⟩ = some (.slice none 0 0) := (xc BK518.out 0).trans rfl; have hcz29_1 : w25.cell? ⟨gb518, 1, none⟩ = some (.int .i64 0) := (xc BK518.out 1).trans rfl; have hcz29_2 : w25.cell? ⟨gb518, 2, none⟩ = some (.slice none 0 0) := (xc BK518.out 2).trans rfl; have hcz29_3 : w25.cell? ⟨gb518, 3, none⟩ = some (.slice none 0 0) := (xc BK518.out 3).trans rfl; have hcz29_4 : w25.cell? ⟨gb518, 4, none⟩ = some (.slice none 0 0) := (xc BK518.out 4).trans rfl; have hcz29_5 : w25.cell? ⟨gb518, 5, none⟩ = some (.int .i64 0) := (xc BK518.out 5).trans rfl; have hcz29_6 : w25.cell? ⟨gb518, 6, none⟩ = some (.int .i64 0) := (xc BK518.out 6).trans rfl; have hfz29_0 := xf BK518.out 0; have hfz29_1 := xf BK518.out 1; have hfz29_2 := xf BK518.out 2; have hfz29_3 := xf BK518.out 3; have hfz29_4 := xf BK518.out 4; have hfz29_5 := xf BK518.out 5; have hfz29_6 := xf BK518.out 6))
 refine bodyPost_ret (results_cell_row rfl _ _ gb518 34 #[.slice Ao13 t520.length co13, .int .i64 a0_1, .slice Ao18 t523.length co18, .slice Ao22 t526.length co22, .slice Ao26 t529.length co26, .int .i64 a0_5, .int .i64 a0_6] (0, 0) _ rfl (by (with_reducible repeat (first | refine xq ?_ _ | refine xr ?_ | refine xo ?_ _)); refine blk_put (cs := #[.slice Ao13 t520.length co13, .int .i64 a0_1, .slice Ao18 t523.length co18, .slice Ao22 t526.length co22, .slice Ao26 t529.length co26, .int .i64 a0_5, .int .i64 0]) ?_ 6 _ rfl; (with_reducible repeat (first | refine xq ?_ _ | refine xr ?_ | refine xo ?_ _)); refine blk_put (cs := #[.slice Ao13 t520.length co13, .int .i64 a0_1, .slice Ao18 t523.length co18, .slice Ao22 t526.length co22, .slice Ao26 t529.length co26, .int .i64 0, .int .i64 0]) ?_ 5 _ rfl; (with_reducible repeat (first | refine xq ?_ _ | refine xr ?_ | refine xo ?_ _)); refine blk_put (cs := #[.slice Ao13 t520.length co13, .int .i64 a0_1, .slice Ao18 t523.length co18, .slice Ao22 t526.length co22, .slice none 0 0, .int .i64 0, .int .i64 0]) ?_ 4 _ rfl; (with_reducible repeat (first | refine xq ?_ _ | refine xr ?_ | refine xo ?_ _)); refine blk_put (cs := #[.slice Ao13 t520.length co13, .int .i64 a0_1, .slice Ao18 t523.length co18, .slice none 0 0, .slice none 0 0, .int .i64 0, .int .i64 0]) ?_ 3 _ rfl; (with_reducible repeat (first | refine xq ?_ _ | refine xr ?_ | refine xo ?_ _)); refine blk_put (cs := #[.slice Ao13 t520.length co13, .int .i64 a0_1, .slice none 0 0, .slice none 0 0, .slice none 0 0, .int .i64 0, .int .i64 0]) ?_ 2 _ rfl; (with_reducible repeat (first | refine xq ?_ _ | refine xr ?_ | refine xo ?_ _)); refine blk_put (cs := #[.slice Ao13 t520.length co13, .int .i64 0, .slice none 0 0, .slice none 0 0, .slice none 0 0, .int .i64 0, .int .i64 0]) ?_ 1 _ rfl; (with_reducible repeat (first | refine xq ?_ _ | refine xr ?_ | refine xo ?_ _)); refine blk_put (cs := #[.slice none 0 0, .int .i64 0, .slice none 0 0, .slice none 0 0, .slice none 0 0, .int .i64 0, .int .i64 0]) ?_ 0 _ rfl; (with_reducible repeat (first | refine xq ?_ _ | refine xr ?_ | refine xo ?_ _)); refine blk_far ?_ NB518_519.out _; (with_reducible repeat (first | refine xq ?_ _ | refine xr ?_ | refine xo ?_ _)); refine blk_far ?_ NB518_519.out _; (with_reducible repeat (first | refine xq ?_ _ | refine xr ?_ | refine xo ?_ _)); refine blk_far ?_ NB518_519.out _; (with_reducible repeat (first | refine xq ?_ _ | refine xr ?_ | refine xo ?_ _)); exact BK518.out) Try.underlying34 rfl (by kernel_rfl)) rfl ?_
 exact ⟨_, _, _, _, by first | rfl | (simp [errW_none, errW_some] <;> rfl) | (simp [*, errW_none, errW_some] <;> rfl), by (with_reducible repeat (first | apply Kd.R_alloc | apply Kd.R_drewN | apply Kd.R_drew)); exact Kd.R_mono (Kd.R_far (p := ⟨gb518, 6, none⟩) (Kd.R_far (p := ⟨gb518, 5, none⟩) (Kd.R_far (p := ⟨gb518, 4, none⟩) (Kd.R_far (p := ⟨gb518, 3, none⟩) (Kd.R_far (p := ⟨gb518, 2, none⟩) (Kd.R_far (p := ⟨gb518, 1, none⟩) (Kd.R_far (p := ⟨gb518, 0, none⟩) (Kd.R_far (p := ⟨gb519, 6, none⟩) (Kd.R_far (p := ⟨gb519, 5, none⟩) (Kd.R_far (p := ⟨gb519, 4, none⟩) (Kd.R_types (Kd.R_types HO522.out BK519.out (by decide)) BK518.out (by decide)) (fun _ hk => hk.1.2) (.slice Ao26 t529.length co26)) (fun _ hk => hk.1.2) (.int .i64 a0_5)) (fun _ hk => hk.1.2) (.int .i64 a0_6)) (fun _ hk => hk.2) (.slice Ao13 t520.length co13)) (fun _ hk => hk.2) (.int .i64 a0_1)) (fun _ hk => hk.2) (.slice Ao18 t523.length co18)) (fun _ hk => hk.2) (.slice Ao22 t526.length co22)) (fun _ hk => hk.2) (.slice Ao26 t529.length co26)) (fun _ hk => hk.2) (.int .i64 a0_5)) (fun _ hk => hk.2) (.int .i64 a0_6)) (fun _ hk => ⟨hk.1.1.1.2, hk.1.1.2⟩), by (with_reducible repeat (first | apply Kd.R_alloc | apply Kd.R_drewN | apply Kd.R_drew)); exact Kd.R_mono (Kd.R_far (p := ⟨gb518, 6, none⟩) (Kd.R_far (p := ⟨gb518, 5, none⟩) (Kd.R_far (p := ⟨gb518, 4, none⟩) (Kd.R_far (p := ⟨gb518, 3, none⟩) (Kd.R_far (p := ⟨gb518, 2, none⟩) (Kd.R_far (p := ⟨gb518, 1, none⟩) (Kd.R_far (p := ⟨gb518, 0, none⟩) (Kd.R_far (p := ⟨gb519, 6, none⟩) (Kd.R_far (p := ⟨gb519, 5, none⟩) (Kd.R_far (p := ⟨gb519, 4, none⟩) (Kd.R_types (Kd.R_types HO525.out BK519.out (by decide)) BK518.out (by decide)) (fun _ hk => hk.1.2) (.slice Ao26 t529.length co26)) (fun _ hk => hk.1.2) (.int .i64 a0_5)) (fun _ hk => hk.1.2) (.int .i64 a0_6)) (fun _ hk => hk.2) (.slice Ao13 t520.length co13)) (fun _ hk => hk.2) (.int .i64 a0_1)) (fun _ hk => hk.2) (.slice Ao18 t523.length co18)) (fun _ hk => hk.2) (.slice Ao22 t526.length co22)) (fun _ hk => hk.2) (.slice Ao26 t529.length co26)) (fun _ hk => hk.2) (.int .i64 a0_5)) (fun _ hk => hk.2) (.int .i64 a0_6)) (fun _ hk => ⟨hk.1.1.1.2, hk.1.1.2⟩), by (with_reducible repeat (first | apply Kd.S_alloc | apply Kd.S_drewN | apply Kd.S_drew)); exact Kd.S_mono (Kd.S_far (p := ⟨gb518, 6, none⟩) (Kd.S_far (p := ⟨gb518, 5, none⟩) (Kd.S_far (p := ⟨gb518, 4, none⟩) (Kd.S_far (p := ⟨gb518, 3, none⟩) (Kd.S_far (p := ⟨gb518, 2, none⟩) (Kd.S_far (p := ⟨gb518, 1, none⟩) (Kd.S_far (p := ⟨gb518, 0, none⟩) (Kd.S_far (p := ⟨gb519, 6, none⟩) (Kd.S_far (p := ⟨gb519, 5, none⟩) (Kd.S_far (p := ⟨gb519, 4, none⟩) (Kd.S_types (Kd.S_types HO528.out BK519.out (by decide)) BK518.out (by decide)) (fun _ hk => hk.1.2) (.slice Ao26 t529.length co26)) (fun _ hk => hk.1.2) (.int .i64 a0_5)) (fun _ hk => hk.1.2) (.int .i64 a0_6)) (fun _ hk => hk.2) (.slice Ao13 t520.length co13)) (fun _ hk => hk.2) (.int .i64 a0_1)) (fun _ hk => hk.2) (.slice Ao18 t523.length co18)) (fun _ hk => hk.2) (.slice Ao22 t526.length co22)) (fun _ hk => hk.2) (.slice Ao26 t529.length co26)) (fun _ hk => hk.2) (.int .i64 a0_5)) (fun _ hk => hk.2) (.int .i64 a0_6)) (fun _ hk => ⟨hk.1.1.1.1.2, ⟨hk.1.1.1.2, hk.1.1.2⟩⟩), by (with_reducible repeat (first | apply Kd.R_alloc | apply Kd.R_drewN | apply Kd.R_drew)); exact Kd.R_mono (Kd.R_far (p := ⟨gb518, 6, none⟩) (Kd.R_far (p := ⟨gb518, 5, none⟩) (Kd.R_far (p := ⟨gb518, 4, none⟩) (Kd.R_far (p := ⟨gb518, 3, none⟩) (Kd.R_far (p := ⟨gb518, 2, none⟩) (Kd.R_far (p := ⟨gb518, 1, none⟩) (Kd.R_far (p := ⟨gb518, 0, none⟩) (Kd.R_far (p := ⟨gb519, 6, none⟩) (Kd.R_far (p := ⟨gb519, 5, none⟩) (Kd.R_far (p := ⟨gb519, 4, none⟩) (Kd.R_types (Kd.R_types HO531.out BK519.out (by decide)) BK518.out (by decide)) (fun _ hk => hk.1.2) (.slice Ao26 t529.length co26)) (fun _ hk => hk.1.2) (.int .i64 a0_5)) (fun _ hk => hk.1.2) (.int .i64 a0_6)) (fun _ hk => hk.2) (.slice Ao13 t520.length co13)) (fun _ hk => hk.2) (.int .i64 a0_1)) (fun _ hk => hk.2) (.slice Ao18 t523.length co18)) (fun _ hk => hk.2) (.slice Ao22 t526.length co22)) (fun _ hk => hk.2) (.slice Ao26 t529.length co26)) (fun _ hk => hk.2) (.int .i64 a0_5)) (fun _ hk => hk.2) (.int .i64 a0_6)) (fun _ hk => ⟨hk.1.1.1.2, hk.1.1.2⟩), by repeat (first | (with_reducible first | exact HB.out | apply xa | apply xn | apply xd | refine xt ?_ GE517.out | refine xt ?_ GE518.out | refine xt ?_ GE519.out) | exact HB.out)⟩

/-! ### slices_Equal_Lint_int: function 111 -/
def slices_Equal_Lint_int.l0 : Nat → List Int → List Int → Int → Int → Option (Bool)
 | 0, _, _, _, _ => none
 | k + 1, x0, x1, x12, x13 => if x13 < x12 then (if 0 ≤ x13 then (if x13 < (x0.length : Int) then (if x13 < (x1.length : Int) then (if (rd x0 x13) = (rd x1 x13) then (slices_Equal_Lint_int.l0 k x0 x1 x12 (wrap64 (x13 + 1))) else (some false)) else (none)) else (none)) else (none)) else (some true)
def slices_Equal_Lint_int.f (k : Nat) (l0 : List Int) (l1 : List Int) : Option (Bool) := if (l0.length : Int) = (l1.length : Int) then (slices_Equal_Lint_int.l0 k l0 l1 (l0.length : Int) 0) else (some false)
theorem slices_Equal_Lint_int.mono_l : ∀ k, (∀ y0 y1 y2 y3, LeO (slices_Equal_Lint_int.l0 k y0 y1 y2 y3) (slices_Equal_Lint_int.l0 (k + 1) y0 y1 y2 y3))
 | 0 => fun _ _ _ _ r h => by simp [slices_Equal_Lint_int.l0] at h
 | k + 1 => by
  have ih0 := slices_Equal_Lint_int.mono_l k
  ·intro y0 y1 y2 y3
   unfold slices_Equal_Lint_int.l0
   repeat' first
   | (with_reducible exact ih0 _ _ _ _)
   | (with_reducible exact LeO.refl _)
   | (with_reducible exact LeO.none _)
   | (with_reducible refine LeO.ite ?_ ?_)
   | (with_reducible refine LeO.bind ?_ (fun _ => ?_))
   | exact ih0 _ _ _ _
   | exact LeO.none _
   | refine LeO.ite ?_ ?_
   | refine LeO.bind ?_ (fun _ => ?_)
theorem slices_Equal_Lint_int.mono : ∀ a0 a1 k, LeO (slices_Equal_Lint_int.f k a0 a1) (slices_Equal_Lint_int.f (k + 1) a0 a1) := by
 intro a0 a1 k
 have ih0 := slices_Equal_Lint_int.mono_l k
 unfold slices_Equal_Lint_int.f
 repeat' first
   | (with_reducible exact ih0 _ _ _ _)
   | (with_reducible exact LeO.refl _)
   | (with_reducible exact LeO.none _)
   | (with_reducible refine LeO.ite ?_ ?_)
   | (with_reducible refine LeO.bind ?_ (fun _ => ?_))
   | exact ih0 _ _ _ _
   | exact LeO.none _
   | refine LeO.ite ?_ ?_
   | refine LeO.bind ?_ (fun _ => ?_)
set_option maxHeartbeats 8000000 in
set_option maxRecDepth 100000 in
theorem slices_Equal_Lint_int.calls (k : Nat) (A0 : Option Addr) (c0 : Nat) (l0 : List Int) (A1 : Option Addr) (c1 : Nat) (l1 : List Int) (r : Bool) (w : World) (hr0 : Kd.C (Kd.int .i64) w A0 l0.length l0) (hc0 : l0.length ≤ c0) (hr1 : Kd.C (Kd.int .i64) w A1 l1.length l1) (hc1 : l1.length ≤ c1) (h : slices_Equal_Lint_int.f k l0 l1 = some r) :
  Calls Try.prog 111 #[.slice A0 l0.length c0, .slice A1 l1.length c1] w fun e w' => e = .returned (.bool r) ∧ Drawn0 w w' := by
 have HR0 := xm hr0
 have HC0 := xm hc0
 clear hr0 hc0
 have HR1 := xm hr1
 have HC1 := xm hc1
 clear hr1 hc1
 have H : (if (l0.length : Int) = (l1.length : Int) then (slices_Equal_Lint_int.l0 k l0 l1 (l0.length : Int) 0) else (some false)) = some r := h
 clear h
 by_cases c3 : (l0.length : Int) = (l1.length : Int)
 ·rw [if_pos c3] at H
  have c3b0 : ((l0.length : Int) == (l1.length : Int)) = true := beq_iff_eq.mpr c3
  have c3b1 : ((l0.length : Int) != (l1.length : Int)) = false := bne_eq_false_iff_eq.mpr c3
  have c3b2 : (l0.length == l1.length) = true := by first | simpa using c3 | (simp at c3 ⊢; omega)
  clear c3
  have H' := xm H
  clear H
  go_enter Try.func111, Try.ntmps111
  go_wp2
  repeat (go_quiet (fail); try go_wp2)
  go_loopg [13] k (fun kq v13 w' => ∃ (x13_1 : Int), v13 = .int .i64 x13_1 ∧ Aside0 (slices_Equal_Lint_int.l0 kq l0 l1 (l0.length : Int) x13_1 = some r) ∧ Aside0 (kq ≤ k) ∧ Drawn0 w w')
  case atStart => exact ⟨(0), (by first | rfl | (simp; done) | (simp [*]; done)), H', ⟨Nat.le_refl _⟩, by repeat (first | exact Drawn0.refl _ | apply Drawn0.step)⟩
  case round =>
   clear H'
   try clear c1
   try clear p2
   try clear c3
   try clear c3b0
   try clear c3b1
   try clear c3b2
   obtain ⟨x13_1, rfl, HA, HK1, ⟨m1, rfl⟩⟩ := hrel
   cases gk with
   | zero => exact absurd HA.out (by simp [slices_Equal_Lint_int.l0])
   | succ k1 =>
    have H := HA.out
    clear HA
    simp only [slices_Equal_Lint_int.l0] at H
    by_cases c4 : x13_1 < (l0.length : Int)
    ·rw [if_pos c4] at H
     have c4b0 : decide (x13_1 < (l0.length : Int)) = true := decide_eq_true c4
     clear c4
     by_cases c5 : 0 ≤ x13_1
     ·rw [if_pos c5] at H
      have c5b0 : decide (0 ≤ x13_1) = true := decide_eq_true c5
      clear c5
      by_cases c6 : x13_1 < (l0.length : Int)
      ·rw [if_pos c6] at H
       have c6b0 : decide (x13_1 < (l0.length : Int)) = true := decide_eq_true c6
       clear c6
       by_cases c7 : x13_1 < (l1.length : Int)
       ·rw [if_pos c7] at H
        have c7b0 : decide (x13_1 < (l1.length : Int)) = true := decide_eq_true c7
        clear c7
        by_cases c8 : (rd l0 x13_1) = (rd l1 x13_1)
        ·rw [if_pos c8] at H
         have c8b0 : ((rd l0 x13_1) == (rd l1 x13_1)) = true := beq_iff_eq.mpr c8
         have c8b1 : ((rd l0 x13_1) != (rd l1 x13_1)) = false := bne_eq_false_iff_eq.mpr c8
         clear c8
         have H' := xm H
         clear H
         have p532 : 0 ≤ (x13_1 : Int) := of_decide_eq_true (by first | (with_reducible assumption) | assumption)
         have q532 : x13_1 < (l0.length : Int) := of_decide_eq_true (by first | (with_reducible assumption) | assumption)
         obtain ⟨ad532, e532, hx532_0⟩ := Kd.at_int HR0.out x13_1 p532 q532
         cases e532
         replace p532 := eq_true p532
         replace q532 := eq_true q532
         have p533 : 0 ≤ (x13_1 : Int) := of_decide_eq_true (by first | (with_reducible assumption) | assumption)
         have q533 : x13_1 < (l1.length : Int) := of_decide_eq_true (by first | (with_reducible assumption) | assumption)
         obtain ⟨ad533, e533, hx533_0⟩ := Kd.at_int HR1.out x13_1 p533 q533
         cases e533
         replace p533 := eq_true p533
         replace q533 := eq_true q533
         go_wp2
         repeat (go_quiet (fail); try go_wp2)
         go_roundg k1
         case measure => have := HK1.out; omega
         case rel => exact ⟨(wrap64 (x13_1 + 1)), (by first | rfl | (simp; done) | (simp [*]; done)), H', ⟨by have := HK1.out; omega⟩, by repeat (first | exact Drawn0.refl _ | apply Drawn0.step)⟩
        ·rw [if_neg c8] at H
         have c8b0 : ((rd l0 x13_1) == (rd l1 x13_1)) = false := beq_eq_false_iff_ne.mpr c8
         have c8b1 : ((rd l0 x13_1) != (rd l1 x13_1)) = true := bne_iff_ne.mpr c8
         obtain rfl := Option.some.inj H
         have p532 : 0 ≤ (x13_1 : Int) := of_decide_eq_true (by first | (with_reducible assumption) | assumption)
         have q532 : x13_1 < (l0.length : Int) := of_decide_eq_true (by first | (with_reducible assumption) | assumption)
         obtain ⟨ad532, e532, hx532_0⟩ := Kd.at_int HR0.out x13_1 p532 q532
         cases e532
         replace p532 := eq_true p532
         replace q532 := eq_true q532
         have p533 : 0 ≤ (x13_1 : Int) := of_decide_eq_true (by first | (with_reducible assumption) | assumption)
         have q533 : x13_1 < (l1.length : Int) := of_decide_eq_true (by first | (with_reducible assumption) | assumption)
         obtain ⟨ad533, e533, hx533_0⟩ := Kd.at_int HR1.out x13_1 p533 q533
         cases e533
         replace p533 := eq_true p533
         replace q533 := eq_true q533
         go_wp2
         repeat (go_quiet (fail); try go_wp2)
         go_ret
         exact ⟨by first | rfl | (simp; done) | (simp [*]; done), by repeat (first | exact Drawn0.refl _ | apply Drawn0.step)⟩
       ·rw [if_neg c7] at H
        exact absurd H (by simp)
      ·rw [if_neg c6] at H
       exact absurd H (by simp)
     ·rw [if_neg c5] at H
      exact absurd H (by simp)
    ·rw [if_neg c4] at H
     have c4b0 : decide (x13_1 < (l0.length : Int)) = false := decide_eq_false c4
     clear c4
     obtain rfl := Option.some.inj H
     go_wp2
     repeat (go_quiet (fail); try go_wp2)
     go_ret
     exact ⟨by first | rfl | (simp; done) | (simp [*]; done), by repeat (first | exact Drawn0.refl _ | apply Drawn0.step)⟩
 ·rw [if_neg c3] at H
  have c3b0 : ((l0.length : Int) == (l1.length : Int)) = false := beq_eq_false_iff_ne.mpr c3
  have c3b1 : ((l0.length : Int) != (l1.length : Int)) = true := bne_iff_ne.mpr c3
  have c3b2 : (l0.length == l1.length) = false := by first | simpa using c3 | (simp at c3 ⊢; omega)
  obtain rfl := Option.some.inj H
  go_enter Try.func111, Try.ntmps111
  go_wp2
  repeat (go_quiet (fail); try go_wp2)
  go_ret
  exact ⟨by first | rfl | (simp; done) | (simp [*]; done), by repeat (first | exact Drawn0.refl _ | apply Drawn0.step)⟩

end Go.Proofs.Ytpbpglbldgpckaa.G
