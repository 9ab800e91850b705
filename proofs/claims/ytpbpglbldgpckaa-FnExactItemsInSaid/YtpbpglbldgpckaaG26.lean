/- Written by a program of this claim's own, out of the translation: functions of the program as plain functions, and that the calls answer as these. No conditions. -/
import Derived.Test.YtpbpglbldgpckaaG0
import Derived.Test.YtpbpglbldgpckaaG1
import Derived.Test.YtpbpglbldgpckaaG22
namespace Go.Proofs.Ytpbpglbldgpckaa.G
open Go.RowKit Go.Proofs.Ytpbpglbldgpckaa.X Go.Proofs.YtpbpglbldgpckaaW.PrintWords Go.Proofs.YtpbpglbldgpckaaW.PrintLast Go.Proofs.YtpbpglbldgpckaaW.PrintMore
attribute [local go_sem] max2_int min2_int max_two min_two max_three min_three max_four min_four   -- for this text's walks alone
set_option linter.unusedVariables false
set_option linter.unusedSimpArgs false

attribute [local go_sem high] eqA51
/-! ### laws_toWindow: function 35 -/
def laws_toWindow.f (k : Nat) (l0_0 : List (S45)) (l0_1 : List (S45)) (l0_2 : List (S45)) (a0_3 : Int) (a0_4 : Int) : Option ((List (S51)) × (List (S51)) × (List (S51)) × Int × Int) := (laws_toMapS.f k l0_0).bind fun t365 => ((laws_toMapS.f k l0_1).bind fun t368 => ((laws_toMapS.f k l0_2).bind fun t371 => ((laws_toMap.f a0_3 a0_4).bind fun bt374 => (some (t365, t368, t371, bt374.1, bt374.2)))))
theorem laws_toWindow.mono : ∀ a0 a1 a2 a3 a4 k, LeO (laws_toWindow.f k a0 a1 a2 a3 a4) (laws_toWindow.f (k + 1) a0 a1 a2 a3 a4) := by
 intro a0 a1 a2 a3 a4 k
 unfold laws_toWindow.f
 repeat' first
   | (with_reducible exact laws_toMapS.mono _ _)
   | (with_reducible exact LeO.refl _)
   | (with_reducible exact LeO.none _)
   | (with_reducible refine LeO.ite ?_ ?_)
   | (with_reducible refine LeO.bind ?_ (fun _ => ?_))
   | exact laws_toMapS.mono _ _
   | exact LeO.none _
   | refine LeO.ite ?_ ?_
   | refine LeO.bind ?_ (fun _ => ?_)
set_option maxHeartbeats 8000000 in
set_option maxRecDepth 100000 in
theorem laws_toWindow.calls (k : Nat) (A0_0 : Option Addr) (c0_0 : Nat) (l0_0 : List (S45)) (A0_1 : Option Addr) (c0_1 : Nat) (l0_1 : List (S45)) (A0_2 : Option Addr) (c0_2 : Nat) (l0_2 : List (S45)) (a0_3 : Int) (a0_4 : Int) (r1 : List (S51)) (r2 : List (S51)) (r3 : List (S51)) (r4 : Int) (r5 : Int) (w : World) (hr0_0 : Kd.C k45 w A0_0 l0_0.length l0_0) (hc0_0 : l0_0.length ≤ c0_0) (hr0_1 : Kd.C k45 w A0_1 l0_1.length l0_1) (hc0_1 : l0_1.length ≤ c0_1) (hr0_2 : Kd.C k45 w A0_2 l0_2.length l0_2) (hc0_2 : l0_2.length ≤ c0_2) (h : laws_toWindow.f k l0_0 l0_1 l0_2 a0_3 a0_4 = some (r1, r2, r3, r4, r5)) :
  Calls Try.prog 35 #[.agg #[.slice A0_0 l0_0.length c0_0, .slice A0_1 l0_1.length c0_1, .slice A0_2 l0_2.length c0_2, .int .i64 a0_3, .int .i64 a0_4]] w fun e w' => ∃ v0_ v1_ v2_ : Value, e = .returned (.agg #[v0_, v1_, v2_, .int .i64 r4, .int .i64 r5]) ∧ Kd.R k51 51 w' w.heap.size (fun k_ => some k_ ≠ (v1_ : Value).ownBlock ∧ some k_ ≠ (v2_ : Value).ownBlock) v0_ r1 ∧ Kd.R k51 51 w' w.heap.size (fun k_ => some k_ ≠ (v0_ : Value).ownBlock ∧ some k_ ≠ (v2_ : Value).ownBlock) v1_ r2 ∧ Kd.R k51 51 w' w.heap.size (fun k_ => some k_ ≠ (v0_ : Value).ownBlock ∧ some k_ ≠ (v1_ : Value).ownBlock) v2_ r3 ∧ Below w.heap.size w w' := by
 have hu47 := Try.underlying47
 have hu53 := Try.underlying53
 have hu45 := Try.underlying45
 have hu51 := Try.underlying51
 have HR0_0 := xm hr0_0
 have HC0_0 := xm hc0_0
 clear hr0_0 hc0_0
 have HR0_1 := xm hr0_1
 have HC0_1 := xm hc0_1
 clear hr0_1 hc0_1
 have HR0_2 := xm hr0_2
 have HC0_2 := xm hc0_2
 clear hr0_2 hc0_2
 have HB := xm (Below.refl w.heap.size w)
 have H : ((laws_toMapS.f k l0_0).bind fun t365 => ((laws_toMapS.f k l0_1).bind fun t368 => ((laws_toMapS.f k l0_2).bind fun t371 => ((laws_toMap.f a0_3 a0_4).bind fun bt374 => (some (t365, t368, t371, bt374.1, bt374.2)))))) = some (r1, r2, r3, r4, r5) := h
 clear h
 replace H := Option.bind_eq_some_iff.mp H
 obtain ⟨t365, A20, H⟩ := H
 replace H : ((laws_toMapS.f k l0_1).bind fun t368 => ((laws_toMapS.f k l0_2).bind fun t371 => ((laws_toMap.f a0_3 a0_4).bind fun bt374 => (some (t365, t368, t371, bt374.1, bt374.2))))) = some (r1, r2, r3, r4, r5) := H
 have A2 := xm A20
 clear A20
 replace H := Option.bind_eq_some_iff.mp H
 obtain ⟨t368, A30, H⟩ := H
 replace H : ((laws_toMapS.f k l0_2).bind fun t371 => ((laws_toMap.f a0_3 a0_4).bind fun bt374 => (some (t365, t368, t371, bt374.1, bt374.2)))) = some (r1, r2, r3, r4, r5) := H
 have A3 := xm A30
 clear A30
 replace H := Option.bind_eq_some_iff.mp H
 obtain ⟨t371, A40, H⟩ := H
 replace H : ((laws_toMap.f a0_3 a0_4).bind fun bt374 => (some (t365, t368, t371, bt374.1, bt374.2))) = some (r1, r2, r3, r4, r5) := H
 have A4 := xm A40
 clear A40
 replace H := Option.bind_eq_some_iff.mp H
 obtain ⟨⟨t374, t375⟩, A50, H⟩ := H
 replace H : (some (t365, t368, t371, t374, t375)) = some (r1, r2, r3, r4, r5) := H
 have A5 := xm A50
 clear A50
 simp only [Option.some.injEq, Prod.mk.injEq] at H
 obtain ⟨rfl, rfl, rfl, rfl, rfl⟩ := H
 go_enter Try.func35, Try.ntmps35
 go_wp2_with (first | ((with_reducible refine gate_dst (N := 1) rfl ?_); refine box_event ?hg (N := 1) ?hd (cs := #[.slice A0_0 l0_0.length c0_0, .slice A0_1 l0_1.length c0_1, .slice A0_2 l0_2.length c0_2, .int .i64 a0_3, .int .i64 a0_4]) (t := 47) ?hr ?_; (case hd => rfl); (case hg => rfl); (case hr => first | (go_simp; done) | (go_simp; rfl)); intro gb362 hg w6 hbox hb; have n0_ := xm (below_step (by repeat (first | (with_reducible first | exact HB.out | apply xa | apply xn | apply xd) | exact HB.out)) hb); have n1_ := xm (hbox); have n2_ := xm ((by rw [hg]; exact (xz (by repeat (first | (with_reducible first | exact HB.out | apply xa | apply xn | apply xd) | exact HB.out))) : w.heap.size ≤ gb362)); have n3_ := xm ((by rw [hg]; exact (xz (by repeat (first | (with_reducible first | exact HB.out | apply xa | apply xn | apply xd) | exact HB.out))) : w.heap.size ≤ gb362)); clear HB; have HB := n0_; have BK362 := n1_; have GW362 := n2_; have GE362 := n3_; clear n0_ n1_ n2_ n3_; clear hb hbox hg) | ((with_reducible refine gate_dst (N := 2) rfl ?_); refine box_event ?hg (N := 2) ?hd (cs := #[.slice none 0 0, .slice none 0 0, .slice none 0 0, .int .i64 0, .int .i64 0]) (t := 53) ?hr ?_; (case hd => rfl); (case hg => rfl); (case hr => first | (go_simp; done) | (go_simp; rfl)); intro gb363 hg w7 hbox hb; have n0_ := xm (blk_below (g := gb362) (o := .cells #[.slice A0_0 l0_0.length c0_0, .slice A0_1 l0_1.length c0_1, .slice A0_2 l0_2.length c0_2, .int .i64 a0_3, .int .i64 a0_4] 47 (0, 0)) (by (with_reducible repeat (first | refine xq ?_ _ | refine xr ?_ | refine xo ?_ _)); exact BK362.out) hb); have n1_ := xm (below_step (by repeat (first | (with_reducible first | exact HB.out | apply xa | apply xn | apply xd | refine xt ?_ GE362.out) | exact HB.out)) hb); have n2_ := xm (hbox); have n3_ := xm ((by rw [hg]; exact (xz (by repeat (first | (with_reducible first | exact HB.out | apply xa | apply xn | apply xd | refine xt ?_ GE362.out) | exact HB.out))) : w.heap.size ≤ gb363)); have n4_ := xm ((by rw [hg]; exact (xz (by repeat (first | (with_reducible first | exact HB.out | apply xa | apply xn | apply xd | refine xt ?_ GE362.out) | exact HB.out))) : w.heap.size ≤ gb363)); have n5_ := xm ((by rw [hg]; exact Nat.ne_of_lt (blk_lt (g := gb362) (o := .cells #[.slice A0_0 l0_0.length c0_0, .slice A0_1 l0_1.length c0_1, .slice A0_2 l0_2.length c0_2, .int .i64 a0_3, .int .i64 a0_4] 47 (0, 0)) (by (with_reducible repeat (first | refine xq ?_ _ | refine xr ?_ | refine xo ?_ _)); exact BK362.out)) : gb362 ≠ gb363)); have n6_ := xm ((by rw [hg]; exact Nat.ne_of_gt (blk_lt (g := gb362) (o := .cells #[.slice A0_0 l0_0.length c0_0, .slice A0_1 l0_1.length c0_1, .slice A0_2 l0_2.length c0_2, .int .i64 a0_3, .int .i64 a0_4] 47 (0, 0)) (by (with_reducible repeat (first | refine xq ?_ _ | refine xr ?_ | refine xo ?_ _)); exact BK362.out)) : gb363 ≠ gb362)); clear BK362; clear HB; have BK362 := n0_; have HB := n1_; have BK363 := n2_; have GW363 := n3_; have GE363 := n4_; have NB362_363 := n5_; have NB363_362 := n6_; clear n0_ n1_ n2_ n3_ n4_ n5_ n6_; clear hb hbox hg) | ((with_reducible refine gate_dst (N := 3) rfl ?_); refine box_event ?hg (N := 3) ?hd (cs := #[.slice none 0 0, .slice none 0 0, .slice none 0 0, .int .i64 0, .int .i64 0]) (t := 53) ?hr ?_; (case hd => rfl); (case hg => rfl); (case hr => first | (go_simp; done) | (go_simp; rfl)); intro gb364 hg w8 hbox hb; have n0_ := xm (blk_below (g := gb362) (o := .cells #[.slice A0_0 l0_0.length c0_0, .slice A0_1 l0_1.length c0_1, .slice A0_2 l0_2.length c0_2, .int .i64 a0_3, .int .i64 a0_4] 47 (0, 0)) (by (with_reducible repeat (first | refine xq ?_ _ | refine xr ?_ | refine xo ?_ _)); exact BK362.out) hb); have n1_ := xm (blk_below (g := gb363) (o := .cells #[.slice none 0 0, .slice none 0 0, .slice none 0 0, .int .i64 0, .int .i64 0] 53 (0, 0)) (by (with_reducible repeat (first | refine xq ?_ _ | refine xr ?_ | refine xo ?_ _)); exact BK363.out) hb); have n2_ := xm (below_step (by repeat (first | (with_reducible first | exact HB.out | apply xa | apply xn | apply xd | refine xt ?_ GE362.out | refine xt ?_ GE363.out) | exact HB.out)) hb); have n3_ := xm (hbox); have n4_ := xm ((by rw [hg]; exact (xz (by repeat (first | (with_reducible first | exact HB.out | apply xa | apply xn | apply xd | refine xt ?_ GE362.out | refine xt ?_ GE363.out) | exact HB.out))) : w.heap.size ≤ gb364)); have n5_ := xm ((by rw [hg]; exact (xz (by repeat (first | (with_reducible first | exact HB.out | apply xa | apply xn | apply xd | refine xt ?_ GE362.out | refine xt ?_ GE363.out) | exact HB.out))) : w.heap.size ≤ gb364)); have n6_ := xm ((by rw [hg]; exact Nat.ne_of_lt (blk_lt (g := gb362) (o := .cells #[.slice A0_0 l0_0.length c0_0, .slice A0_1 l0_1.length c0_1, .slice A0_2 l0_2.length c0_2, .int .i64 a0_3, .int .i64 a0_4] 47 (0, 0)) (by (with_reducible repeat (first | refine xq ?_ _ | refine xr ?_ | refine xo ?_ _)); exact BK362.out)) : gb362 ≠ gb364)); have n7_ := xm ((by rw [hg]; exact Nat.ne_of_gt (blk_lt (g := gb362) (o := .cells #[.slice A0_0 l0_0.length c0_0, .slice A0_1 l0_1.length c0_1, .slice A0_2 l0_2.length c0_2, .int .i64 a0_3, .int .i64 a0_4] 47 (0, 0)) (by (with_reducible repeat (first | refine xq ?_ _ | refine xr ?_ | refine xo ?_ _)); exact BK362.out)) : gb364 ≠ gb362)); have n8_ := xm ((by rw [hg]; exact Nat.ne_of_lt (blk_lt (g := gb363) (o := .cells #[.slice none 0 0, .slice none 0 0, .slice none 0 0, .int .i64 0, .int .i64 0] 53 (0, 0)) (by (with_reducible repeat (first | refine xq ?_ _ | refine xr ?_ | refine xo ?_ _)); exact BK363.out)) : gb363 ≠ gb364)); have n9_ := xm ((by rw [hg]; exact Nat.ne_of_gt (blk_lt (g := gb363) (o := .cells #[.slice none 0 0, .slice none 0 0, .slice none 0 0, .int .i64 0, .int .i64 0] 53 (0, 0)) (by (with_reducible repeat (first | refine xq ?_ _ | refine xr ?_ | refine xo ?_ _)); exact BK363.out)) : gb364 ≠ gb363)); clear BK362; clear BK363; clear HB; have BK362 := n0_; have BK363 := n1_; have HB := n2_; have BK364 := n3_; have GW364 := n4_; have GE364 := n5_; have NB362_364 := n6_; have NB364_362 := n7_; have NB363_364 := n8_; have NB364_363 := n9_; clear n0_ n1_ n2_ n3_ n4_ n5_ n6_ n7_ n8_ n9_; clear hb hbox hg; have hnb9 := NB362_363.out; have hnc9 := NB363_362.out; have hnb10 := NB362_364.out; have hnc10 := NB364_362.out; have hcz11_0 : w8.cell? ⟨gb362, 0, none⟩ = some (.slice A0_0 l0_0.length c0_0) := (xc BK362.out 0).trans rfl; have hcz11_1 : w8.cell? ⟨gb362, 1, none⟩ = some (.slice A0_1 l0_1.length c0_1) := (xc BK362.out 1).trans rfl; have hcz11_2 : w8.cell? ⟨gb362, 2, none⟩ = some (.slice A0_2 l0_2.length c0_2) := (xc BK362.out 2).trans rfl; have hcz11_3 : w8.cell? ⟨gb362, 3, none⟩ = some (.int .i64 a0_3) := (xc BK362.out 3).trans rfl; have hcz11_4 : w8.cell? ⟨gb362, 4, none⟩ = some (.int .i64 a0_4) := (xc BK362.out 4).trans rfl; have hfz11_0 := xf BK362.out 0; have hfz11_1 := xf BK362.out 1; have hfz11_2 := xf BK362.out 2; have hfz11_3 := xf BK362.out 3; have hfz11_4 := xf BK362.out 4) | ((with_reducible refine gate_callee (f := 40) rfl ?_); refine goesL_ (some 6) rfl rfl Try.func40 (by kernel_rfl) rfl #[.slice A0_0 l0_0.length c0_0] rfl (by (try simp only [List.map_toArray, List.map_cons, List.map_nil]); first | done | rfl | (simp only [List.length_drop, List.length_take]; rfl)) ?_; (with_reducible refine (laws_toMapS.calls k _ _ l0_0 t365 _ ?side1 ?side2 A2.out).mono ?_); (case side1 => repeat (first | exact (Kd.C_below HR0_0.out HB.out) | (with_reducible refine Kd.C_alloc ?_ _) | (with_reducible refine Kd.C_drewN ?_ _) | (with_reducible refine Kd.C_drew ?_))); (case side2 => exact HC0_0.out); rintro e w12 ⟨v366, rfl, ho0, hb⟩; refine ⟨_, rfl, ?_⟩; have n0_ := xm (Kd.R_lower ho0 (xz (by repeat (first | (with_reducible first | exact HB.out | apply xa | apply xn | apply xd | refine xt ?_ GE362.out | refine xt ?_ GE363.out | refine xt ?_ GE364.out) | exact HB.out)))); have n1_ := xm (blk_below (g := gb362) (o := .cells #[.slice A0_0 l0_0.length c0_0, .slice A0_1 l0_1.length c0_1, .slice A0_2 l0_2.length c0_2, .int .i64 a0_3, .int .i64 a0_4] 47 (0, 0)) (by (with_reducible repeat (first | refine xq ?_ _ | refine xr ?_ | refine xo ?_ _)); exact BK362.out) hb); have n2_ := xm (blk_below (g := gb363) (o := .cells #[.slice none 0 0, .slice none 0 0, .slice none 0 0, .int .i64 0, .int .i64 0] 53 (0, 0)) (by (with_reducible repeat (first | refine xq ?_ _ | refine xr ?_ | refine xo ?_ _)); exact BK363.out) hb); have n3_ := xm (blk_below (g := gb364) (o := .cells #[.slice none 0 0, .slice none 0 0, .slice none 0 0, .int .i64 0, .int .i64 0] 53 (0, 0)) (by (with_reducible repeat (first | refine xq ?_ _ | refine xr ?_ | refine xo ?_ _)); exact BK364.out) hb); have n4_ := xm (below_step (by repeat (first | (with_reducible first | exact HB.out | apply xa | apply xn | apply xd | refine xt ?_ GE362.out | refine xt ?_ GE363.out | refine xt ?_ GE364.out) | exact HB.out)) hb); clear BK362; clear BK363; clear BK364; clear HB; have HO367 := n0_; have BK362 := n1_; have BK363 := n2_; have BK364 := n3_; have HB := n4_; clear n0_ n1_ n2_ n3_ n4_; (try clear hb); (try clear hb2); (try clear hk); (try clear hi); (try clear ho0); obtain ⟨Ao13, co13, eo13⟩ := Kd.R_slice HO367.out; subst eo13; have hnb14 := NB364_363.out; have hnc14 := NB363_364.out; have hcz15_0 : w12.cell? ⟨gb364, 0, none⟩ = some (.slice none 0 0) := (xc BK364.out 0).trans rfl; have hcz15_1 : w12.cell? ⟨gb364, 1, none⟩ = some (.slice none 0 0) := (xc BK364.out 1).trans rfl; have hcz15_2 : w12.cell? ⟨gb364, 2, none⟩ = some (.slice none 0 0) := (xc BK364.out 2).trans rfl; have hcz15_3 : w12.cell? ⟨gb364, 3, none⟩ = some (.int .i64 0) := (xc BK364.out 3).trans rfl; have hcz15_4 : w12.cell? ⟨gb364, 4, none⟩ = some (.int .i64 0) := (xc BK364.out 4).trans rfl; have hfz15_0 := xf BK364.out 0; have hfz15_1 := xf BK364.out 1; have hfz15_2 := xf BK364.out 2; have hfz15_3 := xf BK364.out 3; have hfz15_4 := xf BK364.out 4; have hcz16_0 : w12.cell? ⟨gb362, 0, none⟩ = some (.slice A0_0 l0_0.length c0_0) := (xc BK362.out 0).trans rfl; have hcz16_1 : w12.cell? ⟨gb362, 1, none⟩ = some (.slice A0_1 l0_1.length c0_1) := (xc BK362.out 1).trans rfl; have hcz16_2 : w12.cell? ⟨gb362, 2, none⟩ = some (.slice A0_2 l0_2.length c0_2) := (xc BK362.out 2).trans rfl; have hcz16_3 : w12.cell? ⟨gb362, 3, none⟩ = some (.int .i64 a0_3) := (xc BK362.out 3).trans rfl; have hcz16_4 : w12.cell? ⟨gb362, 4, none⟩ = some (.int .i64 a0_4) := (xc BK362.out 4).trans rfl; have hfz16_0 := xf BK362.out 0; have hfz16_1 := xf BK362.out 1; have hfz16_2 := xf BK362.out 2; have hfz16_3 := xf BK362.out 3; have hfz16_4 := xf BK362.out 4) | ((with_reducible refine gate_callee (f := 40) rfl ?_); refine goesL_ (some 10) rfl rfl Try.func40 (by kernel_rfl) rfl #[.slice A0_1 l0_1.length c0_1] rfl (by (try simp only [List.map_toArray, List.map_cons, List.map_nil]); first | done | rfl | (simp only [List.length_drop, List.length_take]; rfl)) ?_; (with_reducible refine (laws_toMapS.calls k _ _ l0_1 t368 _ ?side1 ?side2 A3.out).mono ?_); (case side1 => exact Kd.C_below HR0_1.out (by repeat (first | (with_reducible first | exact HB.out | apply xa | apply xn | apply xd | refine xt ?_ GE362.out | refine xt ?_ GE363.out | refine xt ?_ GE364.out) | exact HB.out))); (case side2 => exact HC0_1.out); rintro e w17 ⟨v369, rfl, ho0, hb⟩; refine ⟨_, rfl, ?_⟩; have n0_ := xm (Kd.R_elder' (by (with_reducible repeat (first | apply Kd.R_alloc | apply Kd.R_drewN | apply Kd.R_drew)); exact (Kd.R_mono (Kd.R_far (p := ⟨gb364, 0, none⟩) (Kd.R_types HO367.out BK364.out (by decide)) (fun _ hk => hk.2) (.slice Ao13 t365.length co13)) (fun _ h_ => h_.1))) (Kd.R_base ho0) hb); have n1_ := xm (Kd.R_lower (Kd.R_new' ho0 (Kd.R_lt (by (with_reducible repeat (first | apply Kd.R_alloc | apply Kd.R_drewN | apply Kd.R_drew)); exact (Kd.R_mono (Kd.R_far (p := ⟨gb364, 0, none⟩) (Kd.R_types HO367.out BK364.out (by decide)) (fun _ hk => hk.2) (.slice Ao13 t365.length co13)) (fun _ h_ => h_.1))))) (xz (by repeat (first | (with_reducible first | exact HB.out | apply xa | apply xn | apply xd | refine xt ?_ GE362.out | refine xt ?_ GE363.out | refine xt ?_ GE364.out) | exact HB.out)))); have n2_ := xm (blk_below (g := gb362) (o := .cells #[.slice A0_0 l0_0.length c0_0, .slice A0_1 l0_1.length c0_1, .slice A0_2 l0_2.length c0_2, .int .i64 a0_3, .int .i64 a0_4] 47 (0, 0)) (by (with_reducible repeat (first | refine xq ?_ _ | refine xr ?_ | refine xo ?_ _)); refine blk_far ?_ NB362_364.out _; (with_reducible repeat (first | refine xq ?_ _ | refine xr ?_ | refine xo ?_ _)); exact BK362.out) hb); have n3_ := xm (blk_below (g := gb363) (o := .cells #[.slice none 0 0, .slice none 0 0, .slice none 0 0, .int .i64 0, .int .i64 0] 53 (0, 0)) (by (with_reducible repeat (first | refine xq ?_ _ | refine xr ?_ | refine xo ?_ _)); refine blk_far ?_ NB363_364.out _; (with_reducible repeat (first | refine xq ?_ _ | refine xr ?_ | refine xo ?_ _)); exact BK363.out) hb); have n4_ := xm (blk_below (g := gb364) (o := .cells #[.slice Ao13 t365.length co13, .slice none 0 0, .slice none 0 0, .int .i64 0, .int .i64 0] 53 (0, 0)) (by (with_reducible repeat (first | refine xq ?_ _ | refine xr ?_ | refine xo ?_ _)); refine blk_put (cs := #[.slice none 0 0, .slice none 0 0, .slice none 0 0, .int .i64 0, .int .i64 0]) ?_ 0 _ rfl; (with_reducible repeat (first | refine xq ?_ _ | refine xr ?_ | refine xo ?_ _)); exact BK364.out) hb); have n5_ := xm (below_step (by repeat (first | (with_reducible first | exact HB.out | apply xa | apply xn | apply xd | refine xt ?_ GE362.out | refine xt ?_ GE363.out | refine xt ?_ GE364.out) | exact HB.out)) hb); clear HO367; clear BK362; clear BK363; clear BK364; clear HB; have HO367 := n0_; have HO370 := n1_; have BK362 := n2_; have BK363 := n3_; have BK364 := n4_; have HB := n5_; clear n0_ n1_ n2_ n3_ n4_ n5_; (try clear hb); (try clear hb2); (try clear hk); (try clear hi); (try clear ho0); obtain ⟨Ao18, co18, eo18⟩ := Kd.R_slice HO370.out; subst eo18; have hcz19_0 : w17.cell? ⟨gb364, 0, none⟩ = some (.slice Ao13 t365.length co13) := (xc BK364.out 0).trans rfl; have hcz19_1 : w17.cell? ⟨gb364, 1, none⟩ = some (.slice none 0 0) := (xc BK364.out 1).trans rfl; have hcz19_2 : w17.cell? ⟨gb364, 2, none⟩ = some (.slice none 0 0) := (xc BK364.out 2).trans rfl; have hcz19_3 : w17.cell? ⟨gb364, 3, none⟩ = some (.int .i64 0) := (xc BK364.out 3).trans rfl; have hcz19_4 : w17.cell? ⟨gb364, 4, none⟩ = some (.int .i64 0) := (xc BK364.out 4).trans rfl; have hfz19_0 := xf BK364.out 0; have hfz19_1 := xf BK364.out 1; have hfz19_2 := xf BK364.out 2; have hfz19_3 := xf BK364.out 3; have hfz19_4 := xf BK364.out 4; have hcz20_0 : w17.cell? ⟨gb362, 0, none⟩ = some (.slice A0_0 l0_0.length c0_0) := (xc BK362.out 0).trans rfl; have hcz20_1 : w17.cell? ⟨gb362, 1, none⟩ = some (.slice A0_1 l0_1.length c0_1) := (xc BK362.out 1).trans rfl; have hcz20_2 : w17.cell? ⟨gb362, 2, none⟩ = some (.slice A0_2 l0_2.length c0_2) := (xc BK362.out 2).trans rfl; have hcz20_3 : w17.cell? ⟨gb362, 3, none⟩ = some (.int .i64 a0_3) := (xc BK362.out 3).trans rfl; have hcz20_4 : w17.cell? ⟨gb362, 4, none⟩ = some (.int .i64 a0_4) := (xc BK362.out 4).trans rfl; have hfz20_0 := xf BK362.out 0; have hfz20_1 := xf BK362.out 1; have hfz20_2 := xf BK362.out 2; have hfz20_3 := xf BK362.out 3; have hfz20_4 := xf BK362.out 4) | ((with_reducible refine gate_callee (f := 40) rfl ?_); refine goesL_ (some 14) rfl rfl Try.func40 (by kernel_rfl) rfl #[.slice A0_2 l0_2.length c0_2] rfl (by (try simp only [List.map_toArray, List.map_cons, List.map_nil]); first | done | rfl | (simp only [List.length_drop, List.length_take]; rfl)) ?_; (with_reducible refine (laws_toMapS.calls k _ _ l0_2 t371 _ ?side1 ?side2 A4.out).mono ?_); (case side1 => exact Kd.C_below HR0_2.out (by repeat (first | (with_reducible first | exact HB.out | apply xa | apply xn | apply xd | refine xt ?_ GE362.out | refine xt ?_ GE363.out | refine xt ?_ GE364.out) | exact HB.out))); (case side2 => exact HC0_2.out); rintro e w21 ⟨v372, rfl, ho0, hb⟩; refine ⟨_, rfl, ?_⟩; have n0_ := xm (Kd.R_elder' (by (with_reducible repeat (first | apply Kd.R_alloc | apply Kd.R_drewN | apply Kd.R_drew)); exact (Kd.R_mono (Kd.R_far (p := ⟨gb364, 1, none⟩) (Kd.R_types HO367.out BK364.out (by decide)) (fun _ hk => hk.2) (.slice Ao18 t368.length co18)) (fun _ h_ => h_.1))) (Kd.R_base ho0) hb); have n1_ := xm (Kd.R_elder' (by (with_reducible repeat (first | apply Kd.R_alloc | apply Kd.R_drewN | apply Kd.R_drew)); exact (Kd.R_mono (Kd.R_far (p := ⟨gb364, 1, none⟩) (Kd.R_types HO370.out BK364.out (by decide)) (fun _ hk => hk.2) (.slice Ao18 t368.length co18)) (fun _ h_ => h_.1))) (Kd.R_base ho0) hb); have n2_ := xm (Kd.R_lower (Kd.R_new' (Kd.R_new' ho0 (Kd.R_lt (by (with_reducible repeat (first | apply Kd.R_alloc | apply Kd.R_drewN | apply Kd.R_drew)); exact (Kd.R_mono (Kd.R_far (p := ⟨gb364, 1, none⟩) (Kd.R_types HO367.out BK364.out (by decide)) (fun _ hk => hk.2) (.slice Ao18 t368.length co18)) (fun _ h_ => h_.1))))) (Kd.R_lt (by (with_reducible repeat (first | apply Kd.R_alloc | apply Kd.R_drewN | apply Kd.R_drew)); exact (Kd.R_mono (Kd.R_far (p := ⟨gb364, 1, none⟩) (Kd.R_types HO370.out BK364.out (by decide)) (fun _ hk => hk.2) (.slice Ao18 t368.length co18)) (fun _ h_ => h_.1))))) (xz (by repeat (first | (with_reducible first | exact HB.out | apply xa | apply xn | apply xd | refine xt ?_ GE362.out | refine xt ?_ GE363.out | refine xt ?_ GE364.out) | exact HB.out)))); have n3_ := xm (blk_below (g := gb362) (o := .cells #[.slice A0_0 l0_0.length c0_0, .slice A0_1 l0_1.length c0_1, .slice A0_2 l0_2.length c0_2, .int .i64 a0_3, .int .i64 a0_4] 47 (0, 0)) (by (with_reducible repeat (first | refine xq ?_ _ | refine xr ?_ | refine xo ?_ _)); refine blk_far ?_ NB362_364.out _; (with_reducible repeat (first | refine xq ?_ _ | refine xr ?_ | refine xo ?_ _)); exact BK362.out) hb); have n4_ := xm (blk_below (g := gb363) (o := .cells #[.slice none 0 0, .slice none 0 0, .slice none 0 0, .int .i64 0, .int .i64 0] 53 (0, 0)) (by (with_reducible repeat (first | refine xq ?_ _ | refine xr ?_ | refine xo ?_ _)); refine blk_far ?_ NB363_364.out _; (with_reducible repeat (first | refine xq ?_ _ | refine xr ?_ | refine xo ?_ _)); exact BK363.out) hb); have n5_ := xm (blk_below (g := gb364) (o := .cells #[.slice Ao13 t365.length co13, .slice Ao18 t368.length co18, .slice none 0 0, .int .i64 0, .int .i64 0] 53 (0, 0)) (by (with_reducible repeat (first | refine xq ?_ _ | refine xr ?_ | refine xo ?_ _)); refine blk_put (cs := #[.slice Ao13 t365.length co13, .slice none 0 0, .slice none 0 0, .int .i64 0, .int .i64 0]) ?_ 1 _ rfl; (with_reducible repeat (first | refine xq ?_ _ | refine xr ?_ | refine xo ?_ _)); exact BK364.out) hb); have n6_ := xm (below_step (by repeat (first | (with_reducible first | exact HB.out | apply xa | apply xn | apply xd | refine xt ?_ GE362.out | refine xt ?_ GE363.out | refine xt ?_ GE364.out) | exact HB.out)) hb); clear HO367; clear HO370; clear BK362; clear BK363; clear BK364; clear HB; have HO367 := n0_; have HO370 := n1_; have HO373 := n2_; have BK362 := n3_; have BK363 := n4_; have BK364 := n5_; have HB := n6_; clear n0_ n1_ n2_ n3_ n4_ n5_ n6_; (try clear hb); (try clear hb2); (try clear hk); (try clear hi); (try clear ho0); obtain ⟨Ao22, co22, eo22⟩ := Kd.R_slice HO373.out; subst eo22; have hcz23_0 : w21.cell? ⟨gb364, 0, none⟩ = some (.slice Ao13 t365.length co13) := (xc BK364.out 0).trans rfl; have hcz23_1 : w21.cell? ⟨gb364, 1, none⟩ = some (.slice Ao18 t368.length co18) := (xc BK364.out 1).trans rfl; have hcz23_2 : w21.cell? ⟨gb364, 2, none⟩ = some (.slice none 0 0) := (xc BK364.out 2).trans rfl; have hcz23_3 : w21.cell? ⟨gb364, 3, none⟩ = some (.int .i64 0) := (xc BK364.out 3).trans rfl; have hcz23_4 : w21.cell? ⟨gb364, 4, none⟩ = some (.int .i64 0) := (xc BK364.out 4).trans rfl; have hfz23_0 := xf BK364.out 0; have hfz23_1 := xf BK364.out 1; have hfz23_2 := xf BK364.out 2; have hfz23_3 := xf BK364.out 3; have hfz23_4 := xf BK364.out 4; have hcz24_0 : w21.cell? ⟨gb362, 0, none⟩ = some (.slice A0_0 l0_0.length c0_0) := (xc BK362.out 0).trans rfl; have hcz24_1 : w21.cell? ⟨gb362, 1, none⟩ = some (.slice A0_1 l0_1.length c0_1) := (xc BK362.out 1).trans rfl; have hcz24_2 : w21.cell? ⟨gb362, 2, none⟩ = some (.slice A0_2 l0_2.length c0_2) := (xc BK362.out 2).trans rfl; have hcz24_3 : w21.cell? ⟨gb362, 3, none⟩ = some (.int .i64 a0_3) := (xc BK362.out 3).trans rfl; have hcz24_4 : w21.cell? ⟨gb362, 4, none⟩ = some (.int .i64 a0_4) := (xc BK362.out 4).trans rfl; have hfz24_0 := xf BK362.out 0; have hfz24_1 := xf BK362.out 1; have hfz24_2 := xf BK362.out 2; have hfz24_3 := xf BK362.out 3; have hfz24_4 := xf BK362.out 4) | ((with_reducible refine gate_callee (f := 69) rfl ?_); refine goesL_ (some 18) rfl rfl Try.func69 (by kernel_rfl) rfl #[.agg #[.int .i64 a0_3, .int .i64 a0_4]] rfl (by (try simp only [List.map_toArray, List.map_cons, List.map_nil]); first | done | rfl | (simp only [List.length_drop, List.length_take]; rfl)) ?_; (with_reducible refine (laws_toMap.calls a0_3 a0_4 t374 t375 _ A5.out).mono ?_); rintro e w25 ⟨rfl, hb⟩; refine ⟨_, rfl, ?_⟩; have n0_ := xm (Kd.R_below (by (with_reducible repeat (first | apply Kd.R_alloc | apply Kd.R_drewN | apply Kd.R_drew)); exact (Kd.R_mono (Kd.R_far (p := ⟨gb364, 2, none⟩) (Kd.R_types HO367.out BK364.out (by decide)) (fun _ hk => hk.2) (.slice Ao22 t371.length co22)) (fun _ h_ => h_.1))) hb); have n1_ := xm (Kd.R_below (by (with_reducible repeat (first | apply Kd.R_alloc | apply Kd.R_drewN | apply Kd.R_drew)); exact (Kd.R_mono (Kd.R_far (p := ⟨gb364, 2, none⟩) (Kd.R_types HO370.out BK364.out (by decide)) (fun _ hk => hk.2) (.slice Ao22 t371.length co22)) (fun _ h_ => h_.1))) hb); have n2_ := xm (Kd.R_below (by (with_reducible repeat (first | apply Kd.R_alloc | apply Kd.R_drewN | apply Kd.R_drew)); exact (Kd.R_mono (Kd.R_far (p := ⟨gb364, 2, none⟩) (Kd.R_types HO373.out BK364.out (by decide)) (fun _ hk => hk.2) (.slice Ao22 t371.length co22)) (fun _ h_ => h_.1))) hb); have n3_ := xm (blk_below (g := gb362) (o := .cells #[.slice A0_0 l0_0.length c0_0, .slice A0_1 l0_1.length c0_1, .slice A0_2 l0_2.length c0_2, .int .i64 a0_3, .int .i64 a0_4] 47 (0, 0)) (by (with_reducible repeat (first | refine xq ?_ _ | refine xr ?_ | refine xo ?_ _)); refine blk_far ?_ NB362_364.out _; (with_reducible repeat (first | refine xq ?_ _ | refine xr ?_ | refine xo ?_ _)); exact BK362.out) hb); have n4_ := xm (blk_below (g := gb363) (o := .cells #[.slice none 0 0, .slice none 0 0, .slice none 0 0, .int .i64 0, .int .i64 0] 53 (0, 0)) (by (with_reducible repeat (first | refine xq ?_ _ | refine xr ?_ | refine xo ?_ _)); refine blk_far ?_ NB363_364.out _; (with_reducible repeat (first | refine xq ?_ _ | refine xr ?_ | refine xo ?_ _)); exact BK363.out) hb); have n5_ := xm (blk_below (g := gb364) (o := .cells #[.slice Ao13 t365.length co13, .slice Ao18 t368.length co18, .slice Ao22 t371.length co22, .int .i64 0, .int .i64 0] 53 (0, 0)) (by (with_reducible repeat (first | refine xq ?_ _ | refine xr ?_ | refine xo ?_ _)); refine blk_put (cs := #[.slice Ao13 t365.length co13, .slice Ao18 t368.length co18, .slice none 0 0, .int .i64 0, .int .i64 0]) ?_ 2 _ rfl; (with_reducible repeat (first | refine xq ?_ _ | refine xr ?_ | refine xo ?_ _)); exact BK364.out) hb); have n6_ := xm (below_step (by repeat (first | (with_reducible first | exact HB.out | apply xa | apply xn | apply xd | refine xt ?_ GE362.out | refine xt ?_ GE363.out | refine xt ?_ GE364.out) | exact HB.out)) hb); clear HO367; clear HO370; clear HO373; clear BK362; clear BK363; clear BK364; clear HB; have HO367 := n0_; have HO370 := n1_; have HO373 := n2_; have BK362 := n3_; have BK363 := n4_; have BK364 := n5_; have HB := n6_; clear n0_ n1_ n2_ n3_ n4_ n5_ n6_; (try clear hb); (try clear hb2); (try clear hk); (try clear hi); have hcz26_0 : w25.cell? ⟨gb364, 0, none⟩ = some (.slice Ao13 t365.length co13) := (xc BK364.out 0).trans rfl; have hcz26_1 : w25.cell? ⟨gb364, 1, none⟩ = some (.slice Ao18 t368.length co18) := (xc BK364.out 1).trans rfl; have hcz26_2 : w25.cell? ⟨gb364, 2, none⟩ = some (.slice Ao22 t371.length co22) := (xc BK364.out 2).trans rfl; have hcz26_3 : w25.cell? ⟨gb364, 3, none⟩ = some (.int .i64 0) := (xc BK364.out 3).trans rfl; have hcz26_4 : w25.cell? ⟨gb364, 4, none⟩ = some (.int .i64 0) := (xc BK364.out 4).trans rfl; have hfz26_0 := xf BK364.out 0; have hfz26_1 := xf BK364.out 1; have hfz26_2 := xf BK364.out 2; have hfz26_3 := xf BK364.out 3; have hfz26_4 := xf BK364.out 4; have hcz27_0 : w25.cell? ⟨gb363, 0, none⟩ = some (.slice none 0 0) := (xc BK363.out 0).trans rfl; have hcz27_1 : w25.cell? ⟨gb363, 1, none⟩ = some (.slice none 0 0) := (xc BK363.out 1).trans rfl; have hcz27_2 : w25.cell? ⟨gb363, 2, none⟩ = some (.slice none 0 0) := (xc BK363.out 2).trans rfl; have hcz27_3 : w25.cell? ⟨gb363, 3, none⟩ = some (.int .i64 0) := (xc BK363.out 3).trans rfl; have hcz27_4 : w25.cell? ⟨gb363, 4, none⟩ = some (.int .i64 0) := (xc BK363.out 4).trans rfl; have hfz27_0 := xf BK363.out 0; have hfz27_1 := xf BK363.out 1; have hfz27_2 := xf BK363.out 2; have hfz27_3 := xf BK363.out 3; have hfz27_4 := xf BK363.out 4))
 refine bodyPost_ret (results_cell_row rfl _ _ gb363 53 #[.slice Ao13 t365.length co13, .slice Ao18 t368.length co18, .slice Ao22 t371.length co22, .int .i64 t374, .int .i64 t375] (0, 0) _ rfl (by (with_reducible repeat (first | refine xq ?_ _ | refine xr ?_ | refine xo ?_ _)); refine blk_put (cs := #[.slice Ao13 t365.length co13, .slice Ao18 t368.length co18, .slice Ao22 t371.length co22, .int .i64 t374, .int .i64 0]) ?_ 4 _ rfl; (with_reducible repeat (first | refine xq ?_ _ | refine xr ?_ | refine xo ?_ _)); refine blk_put (cs := #[.slice Ao13 t365.length co13, .slice Ao18 t368.length co18, .slice Ao22 t371.length co22, .int .i64 0, .int .i64 0]) ?_ 3 _ rfl; (with_reducible repeat (first | refine xq ?_ _ | refine xr ?_ | refine xo ?_ _)); refine blk_put (cs := #[.slice Ao13 t365.length co13, .slice Ao18 t368.length co18, .slice none 0 0, .int .i64 0, .int .i64 0]) ?_ 2 _ rfl; (with_reducible repeat (first | refine xq ?_ _ | refine xr ?_ | refine xo ?_ _)); refine blk_put (cs := #[.slice Ao13 t365.length co13, .slice none 0 0, .slice none 0 0, .int .i64 0, .int .i64 0]) ?_ 1 _ rfl; (with_reducible repeat (first | refine xq ?_ _ | refine xr ?_ | refine xo ?_ _)); refine blk_put (cs := #[.slice none 0 0, .slice none 0 0, .slice none 0 0, .int .i64 0, .int .i64 0]) ?_ 0 _ rfl; (with_reducible repeat (first | refine xq ?_ _ | refine xr ?_ | refine xo ?_ _)); refine blk_far ?_ NB363_364.out _; (with_reducible repeat (first | refine xq ?_ _ | refine xr ?_ | refine xo ?_ _)); refine blk_far ?_ NB363_364.out _; (with_reducible repeat (first | refine xq ?_ _ | refine xr ?_ | refine xo ?_ _)); exact BK363.out) Try.underlying53 rfl (by kernel_rfl)) rfl ?_
 exact ⟨_, _, _, by first | rfl | (simp [errW_none, errW_some] <;> rfl) | (simp [*, errW_none, errW_some] <;> rfl), by (with_reducible repeat (first | apply Kd.R_alloc | apply Kd.R_drewN | apply Kd.R_drew)); exact Kd.R_mono (Kd.R_far (p := ⟨gb363, 4, none⟩) (Kd.R_far (p := ⟨gb363, 3, none⟩) (Kd.R_far (p := ⟨gb363, 2, none⟩) (Kd.R_far (p := ⟨gb363, 1, none⟩) (Kd.R_far (p := ⟨gb363, 0, none⟩) (Kd.R_far (p := ⟨gb364, 4, none⟩) (Kd.R_far (p := ⟨gb364, 3, none⟩) (Kd.R_types (Kd.R_types HO367.out BK364.out (by decide)) BK363.out (by decide)) (fun _ hk => hk.1.2) (.int .i64 t374)) (fun _ hk => hk.1.2) (.int .i64 t375)) (fun _ hk => hk.2) (.slice Ao13 t365.length co13)) (fun _ hk => hk.2) (.slice Ao18 t368.length co18)) (fun _ hk => hk.2) (.slice Ao22 t371.length co22)) (fun _ hk => hk.2) (.int .i64 t374)) (fun _ hk => hk.2) (.int .i64 t375)) (fun _ hk => ⟨hk.1.1.1.2, hk.1.1.2⟩), by (with_reducible repeat (first | apply Kd.R_alloc | apply Kd.R_drewN | apply Kd.R_drew)); exact Kd.R_mono (Kd.R_far (p := ⟨gb363, 4, none⟩) (Kd.R_far (p := ⟨gb363, 3, none⟩) (Kd.R_far (p := ⟨gb363, 2, none⟩) (Kd.R_far (p := ⟨gb363, 1, none⟩) (Kd.R_far (p := ⟨gb363, 0, none⟩) (Kd.R_far (p := ⟨gb364, 4, none⟩) (Kd.R_far (p := ⟨gb364, 3, none⟩) (Kd.R_types (Kd.R_types HO370.out BK364.out (by decide)) BK363.out (by decide)) (fun _ hk => hk.1.2) (.int .i64 t374)) (fun _ hk => hk.1.2) (.int .i64 t375)) (fun _ hk => hk.2) (.slice Ao13 t365.length co13)) (fun _ hk => hk.2) (.slice Ao18 t368.length co18)) (fun _ hk => hk.2) (.slice Ao22 t371.length co22)) (fun _ hk => hk.2) (.int .i64 t374)) (fun _ hk => hk.2) (.int .i64 t375)) (fun _ hk => ⟨hk.1.1.1.2, hk.1.1.2⟩), by (with_reducible repeat (first | apply Kd.R_alloc | apply Kd.R_drewN | apply Kd.R_drew)); exact Kd.R_mono (Kd.R_far (p := ⟨gb363, 4, none⟩) (Kd.R_far (p := ⟨gb363, 3, none⟩) (Kd.R_far (p := ⟨gb363, 2, none⟩) (Kd.R_far (p := ⟨gb363, 1, none⟩) (Kd.R_far (p := ⟨gb363, 0, none⟩) (Kd.R_far (p := ⟨gb364, 4, none⟩) (Kd.R_far (p := ⟨gb364, 3, none⟩) (Kd.R_types (Kd.R_types HO373.out BK364.out (by decide)) BK363.out (by decide)) (fun _ hk => hk.1.2) (.int .i64 t374)) (fun _ hk => hk.1.2) (.int .i64 t375)) (fun _ hk => hk.2) (.slice Ao13 t365.length co13)) (fun _ hk => hk.2) (.slice Ao18 t368.length co18)) (fun _ hk => hk.2) (.slice Ao22 t371.length co22)) (fun _ hk => hk.2) (.int .i64 t374)) (fun _ hk => hk.2) (.int .i64 t375)) (fun _ hk => ⟨hk.1.1.1.2, hk.1.1.2⟩), by repeat (first | (with_reducible first | exact HB.out | apply xa | apply xn | apply xd | refine xt ?_ GE362.out | refine xt ?_ GE363.out | refine xt ?_ GE364.out) | exact HB.out)⟩

/-! ### slices_Equal_Limpl_Map_impl_Map: function 99 -/
def slices_Equal_Limpl_Map_impl_Map.l0 : Nat → List (S51) → List (S51) → Int → Int → Option (Bool)
 | 0, _, _, _, _ => none
 | k + 1, x0, x1, x12, x13 => if x13 < x12 then (if 0 ≤ x13 then (if x13 < (x0.length : Int) then (if x13 < (x1.length : Int) then (if (!(((rd_T51 x0 x13).f0) == ((rd_T51 x1 x13).f0)) || (!(((rd_T51 x0 x13).f1) == ((rd_T51 x1 x13).f1)))) = true then (some false) else (slices_Equal_Limpl_Map_impl_Map.l0 k x0 x1 x12 (wrap64 (x13 + 1)))) else (none)) else (none)) else (none)) else (some true)
def slices_Equal_Limpl_Map_impl_Map.f (k : Nat) (l0 : List (S51)) (l1 : List (S51)) : Option (Bool) := if (l0.length : Int) = (l1.length : Int) then (slices_Equal_Limpl_Map_impl_Map.l0 k l0 l1 (l0.length : Int) 0) else (some false)
theorem slices_Equal_Limpl_Map_impl_Map.mono_l : ∀ k, (∀ y0 y1 y2 y3, LeO (slices_Equal_Limpl_Map_impl_Map.l0 k y0 y1 y2 y3) (slices_Equal_Limpl_Map_impl_Map.l0 (k + 1) y0 y1 y2 y3))
 | 0 => fun _ _ _ _ r h => by simp [slices_Equal_Limpl_Map_impl_Map.l0] at h
 | k + 1 => by
  have ih0 := slices_Equal_Limpl_Map_impl_Map.mono_l k
  ·intro y0 y1 y2 y3
   unfold slices_Equal_Limpl_Map_impl_Map.l0
   repeat' first
   | (with_reducible exact ih0 _ _ _ _)
   | (with_reducible exact LeO.refl _)
   | (with_reducible exact LeO.none _)
   | (with_reducible refine LeO.ite ?_ ?_)
   | (with_reducible refine LeO.bind ?_ (fun _ => ?_))
   | exact ih0 _ _ _ _
   | exact LeO.none _
   | refine LeO.ite ?_ ?_
   | refine LeO.bind ?_ (fun _ => ?_)
theorem slices_Equal_Limpl_Map_impl_Map.mono : ∀ a0 a1 k, LeO (slices_Equal_Limpl_Map_impl_Map.f k a0 a1) (slices_Equal_Limpl_Map_impl_Map.f (k + 1) a0 a1) := by
 intro a0 a1 k
 have ih0 := slices_Equal_Limpl_Map_impl_Map.mono_l k
 unfold slices_Equal_Limpl_Map_impl_Map.f
 repeat' first
   | (with_reducible exact ih0 _ _ _ _)
   | (with_reducible exact LeO.refl _)
   | (with_reducible exact LeO.none _)
   | (with_reducible refine LeO.ite ?_ ?_)
   | (with_reducible refine LeO.bind ?_ (fun _ => ?_))
   | exact ih0 _ _ _ _
   | exact LeO.none _
   | refine LeO.ite ?_ ?_
   | refine LeO.bind ?_ (fun _ => ?_)
set_option maxHeartbeats 8000000 in
set_option maxRecDepth 100000 in
theorem slices_Equal_Limpl_Map_impl_Map.calls (k : Nat) (A0 : Option Addr) (c0 : Nat) (l0 : List (S51)) (A1 : Option Addr) (c1 : Nat) (l1 : List (S51)) (r : Bool) (w : World) (hr0 : Kd.C k51 w A0 l0.length l0) (hc0 : l0.length ≤ c0) (hr1 : Kd.C k51 w A1 l1.length l1) (hc1 : l1.length ≤ c1) (h : slices_Equal_Limpl_Map_impl_Map.f k l0 l1 = some r) :
  Calls Try.prog 99 #[.slice A0 l0.length c0, .slice A1 l1.length c1] w fun e w' => e = .returned (.bool r) ∧ Drawn0 w w' := by
 have hu51 := Try.underlying51
 have HR0 := xm hr0
 have HC0 := xm hc0
 clear hr0 hc0
 have HR1 := xm hr1
 have HC1 := xm hc1
 clear hr1 hc1
 have H : (if (l0.length : Int) = (l1.length : Int) then (slices_Equal_Limpl_Map_impl_Map.l0 k l0 l1 (l0.length : Int) 0) else (some false)) = some r := h
 clear h
 by_cases c3 : (l0.length : Int) = (l1.length : Int)
 ·rw [if_pos c3] at H
  have c3b0 : ((l0.length : Int) == (l1.length : Int)) = true := beq_iff_eq.mpr c3
  have c3b1 : ((l0.length : Int) != (l1.length : Int)) = false := bne_eq_false_iff_eq.mpr c3
  have c3b2 : (l0.length == l1.length) = true := by first | simpa using c3 | (simp at c3 ⊢; omega)
  clear c3
  have H' := xm H
  clear H
  go_enter Try.func99, Try.ntmps99
  go_wp2
  repeat (go_quiet (fail); try go_wp2)
  go_loopg [13] k (fun kq v13 w' => ∃ (x13_1 : Int), v13 = .int .i64 x13_1 ∧ Aside0 (slices_Equal_Limpl_Map_impl_Map.l0 kq l0 l1 (l0.length : Int) x13_1 = some r) ∧ Aside0 (kq ≤ k) ∧ Drawn0 w w')
  case atStart => exact ⟨(0), (by first | rfl | (simp; done) | (simp [*]; done)), H', ⟨Nat.le_refl _⟩, by repeat (first | exact Drawn0.refl _ | apply Drawn0.step)⟩
  case round =>
   clear H'
   try clear c1
   try clear p2
   try clear c3
   try clear c3b0
   try clear c3b1
   try clear c3b2
   obtain ⟨x13_1, rfl, HA, HK1, ⟨m1, rfl⟩⟩ := hrel
   cases gk with
   | zero => exact absurd HA.out (by simp [slices_Equal_Limpl_Map_impl_Map.l0])
   | succ k1 =>
    have H := HA.out
    clear HA
    simp only [slices_Equal_Limpl_Map_impl_Map.l0] at H
    by_cases c4 : x13_1 < (l0.length : Int)
    ·rw [if_pos c4] at H
     have c4b0 : decide (x13_1 < (l0.length : Int)) = true := decide_eq_true c4
     clear c4
     by_cases c5 : 0 ≤ x13_1
     ·rw [if_pos c5] at H
      have c5b0 : decide (0 ≤ x13_1) = true := decide_eq_true c5
      clear c5
      by_cases c6 : x13_1 < (l0.length : Int)
      ·rw [if_pos c6] at H
       have c6b0 : decide (x13_1 < (l0.length : Int)) = true := decide_eq_true c6
       clear c6
       by_cases c7 : x13_1 < (l1.length : Int)
       ·rw [if_pos c7] at H
        have c7b0 : decide (x13_1 < (l1.length : Int)) = true := decide_eq_true c7
        clear c7
        by_cases c8 : (!(((rd_T51 l0 x13_1).f0) == ((rd_T51 l1 x13_1).f0)) || (!(((rd_T51 l0 x13_1).f1) == ((rd_T51 l1 x13_1).f1)))) = true
        ·rw [if_pos c8] at H
         have c8b0 : (!(((rd_T51 l0 x13_1).f0) == ((rd_T51 l1 x13_1).f0)) || (!(((rd_T51 l0 x13_1).f1) == ((rd_T51 l1 x13_1).f1)))) = true := c8
         clear c8
         obtain rfl := Option.some.inj H
         have p380 : 0 ≤ (x13_1 : Int) := of_decide_eq_true (by first | (with_reducible assumption) | assumption)
         have q380 : x13_1 < (l0.length : Int) := of_decide_eq_true (by first | (with_reducible assumption) | assumption)
         obtain ⟨ad380, e380, hx380_0, hx380_1⟩ := at_T51 HR0.out x13_1 p380 q380
         cases e380
         replace p380 := eq_true p380
         replace q380 := eq_true q380
         have p381 : 0 ≤ (x13_1 : Int) := of_decide_eq_true (by first | (with_reducible assumption) | assumption)
         have q381 : x13_1 < (l1.length : Int) := of_decide_eq_true (by first | (with_reducible assumption) | assumption)
         obtain ⟨ad381, e381, hx381_0, hx381_1⟩ := at_T51 HR1.out x13_1 p381 q381
         cases e381
         replace p381 := eq_true p381
         replace q381 := eq_true q381
         go_wp2
         repeat (go_quiet (fail); try go_wp2)
         go_ret
         exact ⟨by first | rfl | (simp; done) | (simp [*]; done), by repeat (first | exact Drawn0.refl _ | apply Drawn0.step)⟩
        ·rw [if_neg c8] at H
         have c8b0 : (!(((rd_T51 l0 x13_1).f0) == ((rd_T51 l1 x13_1).f0)) || (!(((rd_T51 l0 x13_1).f1) == ((rd_T51 l1 x13_1).f1)))) = false := by simpa using c8
         clear c8
         have H' := xm H
         clear H
         have p380 : 0 ≤ (x13_1 : Int) := of_decide_eq_true (by first | (with_reducible assumption) | assumption)
         have q380 : x13_1 < (l0.length : Int) := of_decide_eq_true (by first | (with_reducible assumption) | assumption)
         obtain ⟨ad380, e380, hx380_0, hx380_1⟩ := at_T51 HR0.out x13_1 p380 q380
         cases e380
         replace p380 := eq_true p380
         replace q380 := eq_true q380
         have p381 : 0 ≤ (x13_1 : Int) := of_decide_eq_true (by first | (with_reducible assumption) | assumption)
         have q381 : x13_1 < (l1.length : Int) := of_decide_eq_true (by first | (with_reducible assumption) | assumption)
         obtain ⟨ad381, e381, hx381_0, hx381_1⟩ := at_T51 HR1.out x13_1 p381 q381
         cases e381
         replace p381 := eq_true p381
         replace q381 := eq_true q381
         go_wp2
         repeat (go_quiet (fail); try go_wp2)
         go_roundg k1
         case measure => have := HK1.out; omega
         case rel => exact ⟨(wrap64 (x13_1 + 1)), (by first | rfl | (simp; done) | (simp [*]; done)), H', ⟨by have := HK1.out; omega⟩, by repeat (first | exact Drawn0.refl _ | apply Drawn0.step)⟩
       ·rw [if_neg c7] at H
        exact absurd H (by simp)
      ·rw [if_neg c6] at H
       exact absurd H (by simp)
     ·rw [if_neg c5] at H
      exact absurd H (by simp)
    ·rw [if_neg c4] at H
     have c4b0 : decide (x13_1 < (l0.length : Int)) = false := decide_eq_false c4
     clear c4
     obtain rfl := Option.some.inj H
     go_wp2
     repeat (go_quiet (fail); try go_wp2)
     go_ret
     exact ⟨by first | rfl | (simp; done) | (simp [*]; done), by repeat (first | exact Drawn0.refl _ | apply Drawn0.step)⟩
 ·rw [if_neg c3] at H
  have c3b0 : ((l0.length : Int) == (l1.length : Int)) = false := beq_eq_false_iff_ne.mpr c3
  have c3b1 : ((l0.length : Int) != (l1.length : Int)) = true := bne_iff_ne.mpr c3
  have c3b2 : (l0.length == l1.length) = false := by first | simpa using c3 | (simp at c3 ⊢; omega)
  obtain rfl := Option.some.inj H
  go_enter Try.func99, Try.ntmps99
  go_wp2
  repeat (go_quiet (fail); try go_wp2)
  go_ret
  exact ⟨by first | rfl | (simp; done) | (simp [*]; done), by repeat (first | exact Drawn0.refl _ | apply Drawn0.step)⟩

/-! ### impl_composed: function 101 -/
def impl_composed.l0 : Nat → List (S51) → Int → Int → Int → Int → Option (Int × Int)
 | 0, _, _, _, _, _ => none
 | k + 1, x7, x8, x9, x400000, x400001 => if x9 < x8 then (if 0 ≤ x9 then (if x9 < (x7.length : Int) then ((impl_Map_then.f x400000 x400001 ((rd_T51 x7 x9).f0) ((rd_T51 x7 x9).f1)).bind fun bt402 => (impl_composed.l0 k x7 x8 (wrap64 (x9 + 1)) bt402.1 bt402.2)) else (none)) else (none)) else (some (x400000, x400001))
def impl_composed.f (k : Nat) (l0 : List (S51)) : Option (Int × Int) := (impl_same.f).bind fun bt397 => (impl_composed.l0 k l0 (l0.length : Int) 0 bt397.1 bt397.2)
theorem impl_composed.mono_l : ∀ k, (∀ y0 y1 y2 y3 y4, LeO (impl_composed.l0 k y0 y1 y2 y3 y4) (impl_composed.l0 (k + 1) y0 y1 y2 y3 y4))
 | 0 => fun _ _ _ _ _ r h => by simp [impl_composed.l0] at h
 | k + 1 => by
  have ih0 := impl_composed.mono_l k
  ·intro y0 y1 y2 y3 y4
   unfold impl_composed.l0
   repeat' first
   | (with_reducible exact ih0 _ _ _ _ _)
   | (with_reducible exact LeO.refl _)
   | (with_reducible exact LeO.none _)
   | (with_reducible refine LeO.ite ?_ ?_)
   | (with_reducible refine LeO.bind ?_ (fun _ => ?_))
   | exact ih0 _ _ _ _ _
   | exact LeO.none _
   | refine LeO.ite ?_ ?_
   | refine LeO.bind ?_ (fun _ => ?_)
theorem impl_composed.mono : ∀ a0 k, LeO (impl_composed.f k a0) (impl_composed.f (k + 1) a0) := by
 intro a0 k
 have ih0 := impl_composed.mono_l k
 unfold impl_composed.f
 repeat' first
   | (with_reducible exact ih0 _ _ _ _ _)
   | (with_reducible exact LeO.refl _)
   | (with_reducible exact LeO.none _)
   | (with_reducible refine LeO.ite ?_ ?_)
   | (with_reducible refine LeO.bind ?_ (fun _ => ?_))
   | exact ih0 _ _ _ _ _
   | exact LeO.none _
   | refine LeO.ite ?_ ?_
   | refine LeO.bind ?_ (fun _ => ?_)
set_option maxHeartbeats 8000000 in
set_option maxRecDepth 100000 in
theorem impl_composed.calls (k : Nat) (A0 : Option Addr) (c0 : Nat) (l0 : List (S51)) (r1 : Int) (r2 : Int) (w : World) (hr0 : Kd.C k51 w A0 l0.length l0) (hc0 : l0.length ≤ c0) (h : impl_composed.f k l0 = some (r1, r2)) :
  Calls Try.prog 101 #[.slice A0 l0.length c0] w fun e w' => e = .returned (.agg #[.int .i64 r1, .int .i64 r2]) ∧ Below w.heap.size w w' := by
 have hu51 := Try.underlying51
 have HR0 := xm hr0
 have HC0 := xm hc0
 clear hr0 hc0
 have HB := xm (Below.refl w.heap.size w)
 have H : ((impl_same.f).bind fun bt397 => (impl_composed.l0 k l0 (l0.length : Int) 0 bt397.1 bt397.2)) = some (r1, r2) := h
 clear h
 replace H := Option.bind_eq_some_iff.mp H
 obtain ⟨⟨t397, t398⟩, A20, H⟩ := H
 replace H : (impl_composed.l0 k l0 (l0.length : Int) 0 t397 t398) = some (r1, r2) := H
 have A2 := xm A20
 clear A20
 have H' := xm H
 clear H
 go_enter Try.func101, Try.ntmps101
 go_wp2_with (first | ((with_reducible refine gate_dst (N := 2) rfl ?_); refine box_event ?hg (N := 2) ?hd (cs := #[.int .i64 0, .int .i64 0]) (t := 51) ?hr ?_; (case hd => rfl); (case hg => rfl); (case hr => first | (go_simp; done) | (go_simp; rfl)); intro gb396 hg w3 hbox hb; have n0_ := xm (below_step (by repeat (first | (with_reducible first | exact HB.out | apply xa | apply xn | apply xd) | exact HB.out)) hb); have n1_ := xm (hbox); have n2_ := xm ((by rw [hg]; exact (xz (by repeat (first | (with_reducible first | exact HB.out | apply xa | apply xn | apply xd) | exact HB.out))) : w.heap.size ≤ gb396)); have n3_ := xm ((by rw [hg]; exact (xz (by repeat (first | (with_reducible first | exact HB.out | apply xa | apply xn | apply xd) | exact HB.out))) : w.heap.size ≤ gb396)); clear HB; have HB := n0_; have BK396 := n1_; have GW396 := n2_; have GE396 := n3_; clear n0_ n1_ n2_ n3_; clear hb hbox hg) | ((with_reducible refine gate_callee (f := 150) rfl ?_); refine goesL_ (some 6) rfl rfl Try.func150 (by kernel_rfl) rfl #[] rfl (by (try simp only [List.map_toArray, List.map_cons, List.map_nil]); first | done | rfl | (simp only [List.length_drop, List.length_take]; rfl)) ?_; (with_reducible refine (impl_same.calls  t397 t398 _ A2.out).mono ?_); rintro e w4 ⟨rfl, hb⟩; refine ⟨_, rfl, ?_⟩; have n0_ := xm (blk_below (g := gb396) (o := .cells #[.int .i64 0, .int .i64 0] 51 (0, 0)) (by (with_reducible repeat (first | refine xq ?_ _ | refine xr ?_ | refine xo ?_ _)); exact BK396.out) hb); have n1_ := xm (below_step (by repeat (first | (with_reducible first | exact HB.out | apply xa | apply xn | apply xd | refine xt ?_ GE396.out) | exact HB.out)) hb); clear BK396; clear HB; have BK396 := n0_; have HB := n1_; clear n0_ n1_; (try clear hb); (try clear hb2); (try clear hk); (try clear hi)) | ((with_reducible refine gate_dst (N := 3) rfl ?_); refine box_event ?hg (N := 3) ?hd (cs := #[.int .i64 0, .int .i64 0]) (t := 51) ?hr ?_; (case hd => rfl); (case hg => rfl); (case hr => first | (go_simp; done) | (go_simp; rfl)); intro gb399 hg w5 hbox hb; have n0_ := xm (blk_below (g := gb396) (o := .cells #[.int .i64 0, .int .i64 0] 51 (0, 0)) (by (with_reducible repeat (first | refine xq ?_ _ | refine xr ?_ | refine xo ?_ _)); exact BK396.out) hb); have n1_ := xm (below_step (by repeat (first | (with_reducible first | exact HB.out | apply xa | apply xn | apply xd | refine xt ?_ GE396.out) | exact HB.out)) hb); have n2_ := xm (hbox); have n3_ := xm ((by rw [hg]; exact (xz (by repeat (first | (with_reducible first | exact HB.out | apply xa | apply xn | apply xd | refine xt ?_ GE396.out) | exact HB.out))) : w.heap.size ≤ gb399)); have n4_ := xm ((by rw [hg]; exact (xz (by repeat (first | (with_reducible first | exact HB.out | apply xa | apply xn | apply xd | refine xt ?_ GE396.out) | exact HB.out))) : w.heap.size ≤ gb399)); have n5_ := xm ((by rw [hg]; exact Nat.ne_of_lt (blk_lt (g := gb396) (o := .cells #[.int .i64 0, .int .i64 0] 51 (0, 0)) (by (with_reducible repeat (first | refine xq ?_ _ | refine xr ?_ | refine xo ?_ _)); exact BK396.out)) : gb396 ≠ gb399)); have n6_ := xm ((by rw [hg]; exact Nat.ne_of_gt (blk_lt (g := gb396) (o := .cells #[.int .i64 0, .int .i64 0] 51 (0, 0)) (by (with_reducible repeat (first | refine xq ?_ _ | refine xr ?_ | refine xo ?_ _)); exact BK396.out)) : gb399 ≠ gb396)); clear BK396; clear HB; have BK396 := n0_; have HB := n1_; have BK399 := n2_; have GW399 := n3_; have GE399 := n4_; have NB396_399 := n5_; have NB399_396 := n6_; clear n0_ n1_ n2_ n3_ n4_ n5_ n6_; clear hb hbox hg; have hnb6 := NB399_396.out; have hnc6 := NB396_399.out; have hcz7_0 : w5.cell? ⟨gb399, 0, none⟩ = some (.int .i64 0) := (xc BK399.out 0).trans rfl; have hcz7_1 : w5.cell? ⟨gb399, 1, none⟩ = some (.int .i64 0) := (xc BK399.out 1).trans rfl; have hfz7_0 := xf BK399.out 0; have hfz7_1 := xf BK399.out 1))
 go_loopg [9] k (fun kq v9 w' => ∃ (x9_1 : Int) (x400000_1 : Int) (x400001_1 : Int), v9 = .int .i64 x9_1 ∧ Aside0 (impl_composed.l0 kq l0 (l0.length : Int) x9_1 x400000_1 x400001_1 = some (r1, r2)) ∧ Aside0 (kq ≤ k) ∧ Aside0 (w'.heap[gb396]? = some (.cells #[.int .i64 0, .int .i64 0] 51 (0, 0))) ∧ Aside0 (w'.heap[gb399]? = some (.cells #[.int .i64 x400000_1, .int .i64 x400001_1] 51 (0, 0))) ∧ Aside0 (Below w.heap.size w w'))
 case atStart => exact ⟨(0), (t397), (t398), (by first | rfl | (simp; done) | (simp [*]; done)), H', ⟨Nat.le_refl _⟩, ⟨by (with_reducible repeat (first | refine xq ?_ _ | refine xr ?_ | refine xo ?_ _)); refine blk_far ?_ NB396_399.out _; (with_reducible repeat (first | refine xq ?_ _ | refine xr ?_ | refine xo ?_ _)); refine blk_far ?_ NB396_399.out _; (with_reducible repeat (first | refine xq ?_ _ | refine xr ?_ | refine xo ?_ _)); exact BK396.out⟩, ⟨by (with_reducible repeat (first | refine xq ?_ _ | refine xr ?_ | refine xo ?_ _)); refine blk_put (cs := #[.int .i64 t397, .int .i64 0]) ?_ 1 _ rfl; (with_reducible repeat (first | refine xq ?_ _ | refine xr ?_ | refine xo ?_ _)); refine blk_put (cs := #[.int .i64 0, .int .i64 0]) ?_ 0 _ rfl; (with_reducible repeat (first | refine xq ?_ _ | refine xr ?_ | refine xo ?_ _)); exact BK399.out⟩, ⟨by repeat (first | (with_reducible first | exact HB.out | apply xa | apply xn | apply xd | refine xt ?_ GE396.out | refine xt ?_ GE399.out) | exact HB.out)⟩⟩
 case round =>
  clear H'
  try clear c1
  try clear p2
  try clear c6
  try clear hcz7_0
  try clear hcz7_1
  try clear hfz7_0
  try clear hfz7_1
  obtain ⟨x9_1, x400000_1, x400001_1, rfl, HA, HK1, BK396, BK399, HB⟩ := hrel
  cases gk with
  | zero => exact absurd HA.out (by simp [impl_composed.l0])
  | succ k1 =>
   have H := HA.out
   clear HA
   simp only [impl_composed.l0] at H
   by_cases c8 : x9_1 < (l0.length : Int)
   ·rw [if_pos c8] at H
    have c8b0 : decide (x9_1 < (l0.length : Int)) = true := decide_eq_true c8
    clear c8
    by_cases c9 : 0 ≤ x9_1
    ·rw [if_pos c9] at H
     have c9b0 : decide (0 ≤ x9_1) = true := decide_eq_true c9
     clear c9
     by_cases c10 : x9_1 < (l0.length : Int)
     ·rw [if_pos c10] at H
      have c10b0 : decide (x9_1 < (l0.length : Int)) = true := decide_eq_true c10
      clear c10
      replace H := Option.bind_eq_some_iff.mp H
      obtain ⟨⟨t402, t403⟩, A110, H⟩ := H
      replace H : (impl_composed.l0 k1 l0 (l0.length : Int) (wrap64 (x9_1 + 1)) t402 t403) = some (r1, r2) := H
      have A11 := xm A110
      clear A110
      have H' := xm H
      clear H
      have p400 : 0 ≤ (x9_1 : Int) := of_decide_eq_true (by first | (with_reducible assumption) | assumption)
      have q400 : x9_1 < (l0.length : Int) := of_decide_eq_true (by first | (with_reducible assumption) | assumption)
      obtain ⟨ad400, e400, hx400_0, hx400_1⟩ := at_T51 HR0.out x9_1 p400 q400
      cases e400
      replace hx400_0 := (HB.out.cell (World.block_lt_of_cell? w _ hx400_0)).trans hx400_0
      replace hx400_1 := (HB.out.cell (World.block_lt_of_cell? w _ hx400_1)).trans hx400_1
      replace p400 := eq_true p400
      replace q400 := eq_true q400
      go_wp2_with (first | ((with_reducible refine gate_dst (N := 5) rfl ?_); refine box_event ?hg (N := 5) ?hd (cs := #[.int .i64 0, .int .i64 0]) (t := 51) ?hr ?_; (case hd => rfl); (case hg => rfl); (case hr => first | (go_simp; done) | (go_simp; rfl)); intro gb401 hg w12 hbox hb; have n0_ := xm (blk_below (g := gb396) (o := .cells #[.int .i64 0, .int .i64 0] 51 (0, 0)) (by (with_reducible repeat (first | refine xq ?_ _ | refine xr ?_ | refine xo ?_ _)); exact BK396.out) hb); have n1_ := xm (blk_below (g := gb399) (o := .cells #[.int .i64 x400000_1, .int .i64 x400001_1] 51 (0, 0)) (by (with_reducible repeat (first | refine xq ?_ _ | refine xr ?_ | refine xo ?_ _)); exact BK399.out) hb); have n2_ := xm (below_step (by repeat (first | (with_reducible first | exact HB.out | apply xa | apply xn | apply xd | refine xt ?_ GE396.out | refine xt ?_ GE399.out) | exact HB.out)) hb); have n3_ := xm (hbox); have n4_ := xm ((by rw [hg]; exact (xz (by repeat (first | (with_reducible first | exact HB.out | apply xa | apply xn | apply xd | refine xt ?_ GE396.out | refine xt ?_ GE399.out) | exact HB.out))) : w.heap.size ≤ gb401)); have n5_ := xm ((by rw [hg]; exact (xz (by repeat (first | (with_reducible first | exact HB.out | apply xa | apply xn | apply xd | refine xt ?_ GE396.out | refine xt ?_ GE399.out) | exact HB.out))) : w.heap.size ≤ gb401)); have n6_ := xm ((by rw [hg]; exact Nat.ne_of_lt (blk_lt (g := gb396) (o := .cells #[.int .i64 0, .int .i64 0] 51 (0, 0)) (by (with_reducible repeat (first | refine xq ?_ _ | refine xr ?_ | refine xo ?_ _)); exact BK396.out)) : gb396 ≠ gb401)); have n7_ := xm ((by rw [hg]; exact Nat.ne_of_gt (blk_lt (g := gb396) (o := .cells #[.int .i64 0, .int .i64 0] 51 (0, 0)) (by (with_reducible repeat (first | refine xq ?_ _ | refine xr ?_ | refine xo ?_ _)); exact BK396.out)) : gb401 ≠ gb396)); have n8_ := xm ((by rw [hg]; exact Nat.ne_of_lt (blk_lt (g := gb399) (o := .cells #[.int .i64 x400000_1, .int .i64 x400001_1] 51 (0, 0)) (by (with_reducible repeat (first | refine xq ?_ _ | refine xr ?_ | refine xo ?_ _)); exact BK399.out)) : gb399 ≠ gb401)); have n9_ := xm ((by rw [hg]; exact Nat.ne_of_gt (blk_lt (g := gb399) (o := .cells #[.int .i64 x400000_1, .int .i64 x400001_1] 51 (0, 0)) (by (with_reducible repeat (first | refine xq ?_ _ | refine xr ?_ | refine xo ?_ _)); exact BK399.out)) : gb401 ≠ gb399)); clear BK396; clear BK399; clear HB; have BK396 := n0_; have BK399 := n1_; have HB := n2_; have BK401 := n3_; have GW401 := n4_; have GE401 := n5_; have NB396_401 := n6_; have NB401_396 := n7_; have NB399_401 := n8_; have NB401_399 := n9_; clear n0_ n1_ n2_ n3_ n4_ n5_ n6_ n7_ n8_ n9_; clear hb hbox hg; have hnb13 := NB401_396.out; have hnc13 := NB396_401.out; have hnb14 := NB401_399.out; have hnc14 := NB399_401.out; have hcz15_0 : w12.cell? ⟨gb401, 0, none⟩ = some (.int .i64 0) := (xc BK401.out 0).trans rfl; have hcz15_1 : w12.cell? ⟨gb401, 1, none⟩ = some (.int .i64 0) := (xc BK401.out 1).trans rfl; have hfz15_0 := xf BK401.out 0; have hfz15_1 := xf BK401.out 1; have hnb16 := NB399_396.out; have hnc16 := NB396_399.out; have hcz17_0 : w12.cell? ⟨gb399, 0, none⟩ = some (.int .i64 x400000_1) := (xc BK399.out 0).trans rfl; have hcz17_1 : w12.cell? ⟨gb399, 1, none⟩ = some (.int .i64 x400001_1) := (xc BK399.out 1).trans rfl; have hfz17_0 := xf BK399.out 0; have hfz17_1 := xf BK399.out 1) | ((with_reducible refine gate_callee (f := 151) rfl ?_); refine goesL_ (some 15) rfl rfl Try.func151 (by kernel_rfl) rfl #[.agg #[.int .i64 x400000_1, .int .i64 x400001_1], .agg #[.int .i64 ((rd_T51 l0 x9_1).f0), .int .i64 ((rd_T51 l0 x9_1).f1)]] rfl (by (try simp only [List.map_toArray, List.map_cons, List.map_nil]); first | done | rfl | (simp only [List.length_drop, List.length_take]; rfl)) ?_; (with_reducible refine (impl_Map_then.calls x400000_1 x400001_1 ((rd_T51 l0 x9_1).f0) ((rd_T51 l0 x9_1).f1) t402 t403 _ A11.out).mono ?_); rintro e w18 ⟨rfl, hb⟩; refine ⟨_, rfl, ?_⟩; have n0_ := xm (blk_below (g := gb396) (o := .cells #[.int .i64 0, .int .i64 0] 51 (0, 0)) (by (with_reducible repeat (first | refine xq ?_ _ | refine xr ?_ | refine xo ?_ _)); refine blk_far ?_ NB396_401.out _; (with_reducible repeat (first | refine xq ?_ _ | refine xr ?_ | refine xo ?_ _)); refine blk_far ?_ NB396_401.out _; (with_reducible repeat (first | refine xq ?_ _ | refine xr ?_ | refine xo ?_ _)); exact BK396.out) hb); have n1_ := xm (blk_below (g := gb399) (o := .cells #[.int .i64 x400000_1, .int .i64 x400001_1] 51 (0, 0)) (by (with_reducible repeat (first | refine xq ?_ _ | refine xr ?_ | refine xo ?_ _)); refine blk_far ?_ NB399_401.out _; (with_reducible repeat (first | refine xq ?_ _ | refine xr ?_ | refine xo ?_ _)); refine blk_far ?_ NB399_401.out _; (with_reducible repeat (first | refine xq ?_ _ | refine xr ?_ | refine xo ?_ _)); exact BK399.out) hb); have n2_ := xm (blk_below (g := gb401) (o := .cells #[.int .i64 ((rd_T51 l0 x9_1).f0), .int .i64 ((rd_T51 l0 x9_1).f1)] 51 (0, 0)) (by (with_reducible repeat (first | refine xq ?_ _ | refine xr ?_ | refine xo ?_ _)); refine blk_put (cs := #[.int .i64 ((rd_T51 l0 x9_1).f0), .int .i64 0]) ?_ 1 _ rfl; (with_reducible repeat (first | refine xq ?_ _ | refine xr ?_ | refine xo ?_ _)); refine blk_put (cs := #[.int .i64 0, .int .i64 0]) ?_ 0 _ rfl; (with_reducible repeat (first | refine xq ?_ _ | refine xr ?_ | refine xo ?_ _)); exact BK401.out) hb); have n3_ := xm (below_step (by repeat (first | (with_reducible first | exact HB.out | apply xa | apply xn | apply xd | refine xt ?_ GE396.out | refine xt ?_ GE399.out | refine xt ?_ GE401.out) | exact HB.out)) hb); clear BK396; clear BK399; clear BK401; clear HB; have BK396 := n0_; have BK399 := n1_; have BK401 := n2_; have HB := n3_; clear n0_ n1_ n2_ n3_; (try clear hb); (try clear hb2); (try clear hk); (try clear hi); have hcz19_0 : w18.cell? ⟨gb399, 0, none⟩ = some (.int .i64 x400000_1) := (xc BK399.out 0).trans rfl; have hcz19_1 : w18.cell? ⟨gb399, 1, none⟩ = some (.int .i64 x400001_1) := (xc BK399.out 1).trans rfl; have hfz19_0 := xf BK399.out 0; have hfz19_1 := xf BK399.out 1))
      go_roundg k1
      case measure => have := HK1.out; omega
      case rel => exact ⟨(wrap64 (x9_1 + 1)), (t402), (t403), (by first | rfl | (simp; done) | (simp [*]; done)), H', ⟨by have := HK1.out; omega⟩, ⟨by (with_reducible repeat (first | refine xq ?_ _ | refine xr ?_ | refine xo ?_ _)); refine blk_far ?_ NB396_399.out _; (with_reducible repeat (first | refine xq ?_ _ | refine xr ?_ | refine xo ?_ _)); refine blk_far ?_ NB396_399.out _; (with_reducible repeat (first | refine xq ?_ _ | refine xr ?_ | refine xo ?_ _)); exact BK396.out⟩, ⟨by (with_reducible repeat (first | refine xq ?_ _ | refine xr ?_ | refine xo ?_ _)); refine blk_put (cs := #[.int .i64 t402, .int .i64 x400001_1]) ?_ 1 _ rfl; (with_reducible repeat (first | refine xq ?_ _ | refine xr ?_ | refine xo ?_ _)); refine blk_put (cs := #[.int .i64 x400000_1, .int .i64 x400001_1]) ?_ 0 _ rfl; (with_reducible repeat (first | refine xq ?_ _ | refine xr ?_ | refine xo ?_ _)); exact BK399.out⟩, ⟨by repeat (first | (with_reducible first | exact HB.out | apply xa | apply xn | apply xd | refine xt ?_ GE396.out | refine xt ?_ GE399.out | refine xt ?_ GE401.out) | exact HB.out)⟩⟩
     ·rw [if_neg c10] at H
      exact absurd H (by simp)
    ·rw [if_neg c9] at H
     exact absurd H (by simp)
   ·rw [if_neg c8] at H
    have c8b0 : decide (x9_1 < (l0.length : Int)) = false := decide_eq_false c8
    clear c8
    simp only [Option.some.injEq, Prod.mk.injEq] at H
    obtain ⟨rfl, rfl⟩ := H
    have hnb20 := NB399_396.out
    have hnc20 := NB396_399.out
    have hcz21_0 : wr.cell? ⟨gb399, 0, none⟩ = some (.int .i64 x400000_1) := (xc BK399.out 0).trans rfl
    have hcz21_1 : wr.cell? ⟨gb399, 1, none⟩ = some (.int .i64 x400001_1) := (xc BK399.out 1).trans rfl
    have hfz21_0 := xf BK399.out 0
    have hfz21_1 := xf BK399.out 1
    have hcz22_0 : wr.cell? ⟨gb396, 0, none⟩ = some (.int .i64 0) := (xc BK396.out 0).trans rfl
    have hcz22_1 : wr.cell? ⟨gb396, 1, none⟩ = some (.int .i64 0) := (xc BK396.out 1).trans rfl
    have hfz22_0 := xf BK396.out 0
    have hfz22_1 := xf BK396.out 1
    go_wp2
    refine bodyPost_ret (results_cell_row rfl _ _ gb396 51 #[.int .i64 x400000_1, .int .i64 x400001_1] (0, 0) _ rfl (by (with_reducible repeat (first | refine xq ?_ _ | refine xr ?_ | refine xo ?_ _)); refine blk_put (cs := #[.int .i64 x400000_1, .int .i64 0]) ?_ 1 _ rfl; (with_reducible repeat (first | refine xq ?_ _ | refine xr ?_ | refine xo ?_ _)); refine blk_put (cs := #[.int .i64 0, .int .i64 0]) ?_ 0 _ rfl; (with_reducible repeat (first | refine xq ?_ _ | refine xr ?_ | refine xo ?_ _)); exact BK396.out) Try.underlying51 rfl (by kernel_rfl)) rfl ?_
    exact ⟨by first | rfl | (simp [errW_none, errW_some] <;> rfl) | (simp [*, errW_none, errW_some] <;> rfl), by repeat (first | (with_reducible first | exact HB.out | apply xa | apply xn | apply xd | refine xt ?_ GE396.out | refine xt ?_ GE399.out) | exact HB.out)⟩

end Go.Proofs.Ytpbpglbldgpckaa.G
