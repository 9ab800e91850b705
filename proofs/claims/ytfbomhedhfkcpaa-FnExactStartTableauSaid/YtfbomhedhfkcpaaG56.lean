/- Written by a program of this claim's own, out of the translation: functions of the program as plain functions, and that the calls answer as these. No conditions. -/
import Derived.Test.YtfbomhedhfkcpaaG0
import Derived.Test.YtfbomhedhfkcpaaG8
import Derived.Test.YtfbomhedhfkcpaaG15
import Derived.Test.YtfbomhedhfkcpaaG43
namespace Go.Proofs.Ytfbomhedhfkcpaa.G
open Go.RowKit Go.Proofs.Ytfbomhedhfkcpaa.X Go.Proofs.YtfbomhedhfkcpaaW.PrintWords Go.Proofs.YtfbomhedhfkcpaaW.PrintLast Go.Proofs.YtfbomhedhfkcpaaW.PrintMore
attribute [local go_sem] max2_int min2_int max_two min_two max_three min_three max_four min_four   -- for this text's walks alone
set_option linter.unusedVariables false
set_option linter.unusedSimpArgs false

/-! ### spec_StartTableau: function 52 -/
def spec_StartTableau.f (k : Nat) (l0 : List (List Int)) (a1 : Int) : Option (Int × (List (S99)) × Bool) := (spec_GoodParts.f k l0 a1).bind fun t915 => (if t915 = true then ((spec_l9Start.f k l0 a1).bind fun bt916 => (some (bt916.1, bt916.2, true))) else (some (0, ([] : List (S99)), false)))
theorem spec_StartTableau.mono : ∀ a0 a1 k, LeO (spec_StartTableau.f k a0 a1) (spec_StartTableau.f (k + 1) a0 a1) := by
 intro a0 a1 k
 unfold spec_StartTableau.f
 repeat' first
   | (with_reducible exact spec_GoodParts.mono _ _ _)
   | (with_reducible exact spec_l9Start.mono _ _ _)
   | (with_reducible exact LeO.refl _)
   | (with_reducible exact LeO.none _)
   | (with_reducible refine LeO.ite ?_ ?_)
   | (with_reducible refine LeO.bind ?_ (fun _ => ?_))
   | exact spec_GoodParts.mono _ _ _
   | exact spec_l9Start.mono _ _ _
   | exact LeO.none _
   | refine LeO.ite ?_ ?_
   | refine LeO.bind ?_ (fun _ => ?_)
set_option maxHeartbeats 8000000 in
set_option maxRecDepth 100000 in
theorem spec_StartTableau.calls (k : Nat) (A0 : Option Addr) (c0 : Nat) (l0 : List (List Int)) (a1 : Int) (r1 : Int) (r2 : List (S99)) (r3 : Bool) (w : World) (hr0 : Kd.C (Kd.slice 3 (Kd.int .i64)) w A0 l0.length l0) (hc0 : l0.length ≤ c0) (h : spec_StartTableau.f k l0 a1 = some (r1, r2, r3)) :
  Calls Try.prog 52 #[.slice A0 l0.length c0, .int .i64 a1] w fun e w' => ∃ v1_ : Value, e = .returned (.tuple #[.agg #[.int .i64 r1, v1_], .bool r3]) ∧ Kd.S k99 99 w' w.heap.size (fun _ => True) v1_ r2 ∧ Below w.heap.size w w' := by
 have hu44 := Try.underlying44
 have HR0 := xm hr0
 have HC0 := xm hc0
 clear hr0 hc0
 have HB := xm (Below.refl w.heap.size w)
 have H : ((spec_GoodParts.f k l0 a1).bind fun t915 => (if t915 = true then ((spec_l9Start.f k l0 a1).bind fun bt916 => (some (bt916.1, bt916.2, true))) else (some (0, ([] : List (S99)), false)))) = some (r1, r2, r3) := h
 clear h
 replace H := Option.bind_eq_some_iff.mp H
 obtain ⟨t915, A30, H⟩ := H
 replace H : (if t915 = true then ((spec_l9Start.f k l0 a1).bind fun bt916 => (some (bt916.1, bt916.2, true))) else (some (0, ([] : List (S99)), false))) = some (r1, r2, r3) := H
 have A3 := xm A30
 clear A30
 by_cases c4 : t915 = true
 ·subst c4
  have H1 : ((spec_l9Start.f k l0 a1).bind fun bt916 => (some (bt916.1, bt916.2, true))) = some (r1, r2, r3) := by first | (with_reducible rfl) | (rw [if_pos rfl] at H; exact H)
  clear H
  have H := H1
  clear H1
  replace H := Option.bind_eq_some_iff.mp H
  obtain ⟨⟨t916, t917⟩, A50, H⟩ := H
  replace H : (some (t916, t917, true)) = some (r1, r2, r3) := H
  have A5 := xm A50
  clear A50
  simp only [Option.some.injEq, Prod.mk.injEq] at H
  obtain ⟨rfl, rfl, rfl⟩ := H
  go_enter Try.func52, Try.ntmps52
  go_wp2_with (first | ((with_reducible refine gate_dst (N := 4) rfl ?_); refine box_event ?hg (N := 4) ?hd (cs := #[.int .i64 0, .slice none 0 0]) (t := 44) ?hr ?_; (case hd => rfl); (case hg => rfl); (case hr => first | (go_simp; done) | (go_simp; rfl)); intro gb914 hg w6 hbox hb; have n0_ := xm (below_step (by repeat (first | (with_reducible first | exact HB.out | apply xa | apply xn | apply xd) | exact HB.out)) hb); have n1_ := xm (hbox); have n2_ := xm ((by rw [hg]; exact (xz (by repeat (first | (with_reducible first | exact HB.out | apply xa | apply xn | apply xd) | exact HB.out))) : w.heap.size ≤ gb914)); have n3_ := xm ((by rw [hg]; exact (xz (by repeat (first | (with_reducible first | exact HB.out | apply xa | apply xn | apply xd) | exact HB.out))) : w.heap.size ≤ gb914)); clear HB; have HB := n0_; have BK914 := n1_; have GW914 := n2_; have GE914 := n3_; clear n0_ n1_ n2_ n3_; clear hb hbox hg) | ((with_reducible refine gate_callee (f := 21) rfl ?_); refine goesL_ (some 8) rfl rfl Try.func21 (by kernel_rfl) rfl #[.slice A0 l0.length c0, .int .i64 a1] rfl (by (try simp only [List.map_toArray, List.map_cons, List.map_nil]); first | done | rfl | (simp only [List.length_drop, List.length_take]; rfl)) ?_; (with_reducible refine (spec_GoodParts.calls k _ _ l0 a1 true _ ?side1 ?side2 A3.out).mono ?_); (case side1 => repeat (first | exact (Kd.C_below HR0.out HB.out) | (with_reducible refine Kd.C_alloc ?_ _) | (with_reducible refine Kd.C_drewN ?_ _) | (with_reducible refine Kd.C_drew ?_))); (case side2 => exact HC0.out); rintro e w7 ⟨rfl, hb⟩; refine ⟨_, rfl, ?_⟩; have n0_ := xm (blk_below (g := gb914) (o := .cells #[.int .i64 0, .slice none 0 0] 44 (0, 0)) (by (with_reducible repeat (first | refine xq ?_ _ | refine xr ?_ | refine xo ?_ _)); exact BK914.out) hb); have n1_ := xm (below_step (by repeat (first | (with_reducible first | exact HB.out | apply xa | apply xn | apply xd | refine xt ?_ GE914.out) | exact HB.out)) hb); clear BK914; clear HB; have BK914 := n0_; have HB := n1_; clear n0_ n1_; (try clear hb); (try clear hb2); (try clear hk); (try clear hi)) | ((with_reducible refine gate_callee (f := 66) rfl ?_); refine goesL_ (some 13) rfl rfl Try.func66 (by kernel_rfl) rfl #[.slice A0 l0.length c0, .int .i64 a1] rfl (by (try simp only [List.map_toArray, List.map_cons, List.map_nil]); first | done | rfl | (simp only [List.length_drop, List.length_take]; rfl)) ?_; (with_reducible refine (spec_l9Start.calls k _ _ l0 a1 t916 t917 _ ?side1 ?side2 A5.out).mono ?_); (case side1 => repeat (first | exact (Kd.C_below HR0.out HB.out) | (with_reducible refine Kd.C_alloc ?_ _) | (with_reducible refine Kd.C_drewN ?_ _) | (with_reducible refine Kd.C_drew ?_))); (case side2 => exact HC0.out); rintro e w8 ⟨v918, rfl, ho0, hb⟩; refine ⟨_, rfl, ?_⟩; have n0_ := xm (Kd.S_lower ho0 (xz (by repeat (first | (with_reducible first | exact HB.out | apply xa | apply xn | apply xd | refine xt ?_ GE914.out) | exact HB.out)))); have n1_ := xm (blk_below (g := gb914) (o := .cells #[.int .i64 0, .slice none 0 0] 44 (0, 0)) (by (with_reducible repeat (first | refine xq ?_ _ | refine xr ?_ | refine xo ?_ _)); exact BK914.out) hb); have n2_ := xm (below_step (by repeat (first | (with_reducible first | exact HB.out | apply xa | apply xn | apply xd | refine xt ?_ GE914.out) | exact HB.out)) hb); clear BK914; clear HB; have HO919 := n0_; have BK914 := n1_; have HB := n2_; clear n0_ n1_ n2_; (try clear hb); (try clear hb2); (try clear hk); (try clear hi); (try clear ho0); have hcz9_0 : w8.cell? ⟨gb914, 0, none⟩ = some (.int .i64 0) := (xc BK914.out 0).trans rfl; have hcz9_1 : w8.cell? ⟨gb914, 1, none⟩ = some (.slice none 0 0) := (xc BK914.out 1).trans rfl; have hfz9_0 := xf BK914.out 0; have hfz9_1 := xf BK914.out 1; obtain ⟨Ao10, co10, eo10⟩ := Kd.S_slice HO919.out; subst eo10))
  refine bodyPost_ret (results_ct rfl _ _ gb914 44 #[.int .i64 t916, .slice Ao10 t917.length co10] (0, 0) _ rfl (by (with_reducible repeat (first | refine xq ?_ _ | refine xr ?_ | refine xo ?_ _)); refine blk_put (cs := #[.int .i64 t916, .slice none 0 0]) ?_ 1 _ rfl; (with_reducible repeat (first | refine xq ?_ _ | refine xr ?_ | refine xo ?_ _)); refine blk_put (cs := #[.int .i64 0, .slice none 0 0]) ?_ 0 _ rfl; (with_reducible repeat (first | refine xq ?_ _ | refine xr ?_ | refine xo ?_ _)); exact BK914.out) Try.underlying44 rfl (by kernel_rfl)) rfl ?_
  exact ⟨_, by first | rfl | (simp [errW_none, errW_some] <;> rfl) | (simp [*, errW_none, errW_some] <;> rfl), by (with_reducible repeat (first | apply Kd.S_alloc | apply Kd.S_drewN | apply Kd.S_drew)); exact Kd.S_mono (Kd.S_far (p := ⟨gb914, 1, none⟩) (Kd.S_far (p := ⟨gb914, 0, none⟩) (Kd.S_types HO919.out BK914.out (by decide)) (fun _ hk => hk.2) (.int .i64 t916)) (fun _ hk => hk.2) (.slice Ao10 t917.length co10)) (fun _ hk => trivial), by repeat (first | (with_reducible first | exact HB.out | apply xa | apply xn | apply xd | refine xt ?_ GE914.out) | exact HB.out)⟩
 ·replace c4 := Bool.eq_false_iff.mpr c4
  subst c4
  have H1 : (some (0, ([] : List (S99)), false)) = some (r1, r2, r3) := by first | (with_reducible rfl) | (rw [if_neg (show ¬ (false = true) by decide)] at H; exact H)
  clear H
  have H := H1
  clear H1
  simp only [Option.some.injEq, Prod.mk.injEq] at H
  obtain ⟨rfl, rfl, rfl⟩ := H
  go_enter Try.func52, Try.ntmps52
  go_wp2_with (first | ((with_reducible refine gate_dst (N := 4) rfl ?_); refine box_event ?hg (N := 4) ?hd (cs := #[.int .i64 0, .slice none 0 0]) (t := 44) ?hr ?_; (case hd => rfl); (case hg => rfl); (case hr => first | (go_simp; done) | (go_simp; rfl)); intro gb914 hg w11 hbox hb; have n0_ := xm (below_step (by repeat (first | (with_reducible first | exact HB.out | apply xa | apply xn | apply xd) | exact HB.out)) hb); have n1_ := xm (hbox); have n2_ := xm ((by rw [hg]; exact (xz (by repeat (first | (with_reducible first | exact HB.out | apply xa | apply xn | apply xd) | exact HB.out))) : w.heap.size ≤ gb914)); have n3_ := xm ((by rw [hg]; exact (xz (by repeat (first | (with_reducible first | exact HB.out | apply xa | apply xn | apply xd) | exact HB.out))) : w.heap.size ≤ gb914)); clear HB; have HB := n0_; have BK914 := n1_; have GW914 := n2_; have GE914 := n3_; clear n0_ n1_ n2_ n3_; clear hb hbox hg) | ((with_reducible refine gate_callee (f := 21) rfl ?_); refine goesL_ (some 8) rfl rfl Try.func21 (by kernel_rfl) rfl #[.slice A0 l0.length c0, .int .i64 a1] rfl (by (try simp only [List.map_toArray, List.map_cons, List.map_nil]); first | done | rfl | (simp only [List.length_drop, List.length_take]; rfl)) ?_; (with_reducible refine (spec_GoodParts.calls k _ _ l0 a1 false _ ?side1 ?side2 A3.out).mono ?_); (case side1 => repeat (first | exact (Kd.C_below HR0.out HB.out) | (with_reducible refine Kd.C_alloc ?_ _) | (with_reducible refine Kd.C_drewN ?_ _) | (with_reducible refine Kd.C_drew ?_))); (case side2 => exact HC0.out); rintro e w12 ⟨rfl, hb⟩; refine ⟨_, rfl, ?_⟩; have n0_ := xm (blk_below (g := gb914) (o := .cells #[.int .i64 0, .slice none 0 0] 44 (0, 0)) (by (with_reducible repeat (first | refine xq ?_ _ | refine xr ?_ | refine xo ?_ _)); exact BK914.out) hb); have n1_ := xm (below_step (by repeat (first | (with_reducible first | exact HB.out | apply xa | apply xn | apply xd | refine xt ?_ GE914.out) | exact HB.out)) hb); clear BK914; clear HB; have BK914 := n0_; have HB := n1_; clear n0_ n1_; (try clear hb); (try clear hb2); (try clear hk); (try clear hi); have hcz13_0 : w12.cell? ⟨gb914, 0, none⟩ = some (.int .i64 0) := (xc BK914.out 0).trans rfl; have hcz13_1 : w12.cell? ⟨gb914, 1, none⟩ = some (.slice none 0 0) := (xc BK914.out 1).trans rfl; have hfz13_0 := xf BK914.out 0; have hfz13_1 := xf BK914.out 1))
  refine bodyPost_ret (results_ct rfl _ _ gb914 44 #[.int .i64 0, .slice none 0 0] (0, 0) _ rfl (by (with_reducible repeat (first | refine xq ?_ _ | refine xr ?_ | refine xo ?_ _)); refine blk_put (cs := #[.int .i64 0, .slice none 0 0]) ?_ 1 _ rfl; (with_reducible repeat (first | refine xq ?_ _ | refine xr ?_ | refine xo ?_ _)); refine blk_put (cs := #[.int .i64 0, .slice none 0 0]) ?_ 0 _ rfl; (with_reducible repeat (first | refine xq ?_ _ | refine xr ?_ | refine xo ?_ _)); exact BK914.out) Try.underlying44 rfl (by kernel_rfl)) rfl ?_
  exact ⟨_, by first | rfl | (simp [errW_none, errW_some] <;> rfl) | (simp [*, errW_none, errW_some] <;> rfl), by first | exact Kd.S_nil _ _ _ _ _ | exact Kd.N_nil _ _ _ _ _ | exact Kd.V_nil _ _ _ _ _ | exact Kd.Q_nil _ _ _ _ _ | exact Kd.R_nil _ _ _ _ _, by repeat (first | (with_reducible first | exact HB.out | apply xa | apply xn | apply xd | refine xt ?_ GE914.out) | exact HB.out)⟩

/-! ### impl_StartTableau: function 53 -/
def impl_StartTableau.f (k : Nat) (l0 : List (List Int)) (a1 : Int) : Option (Int × (List (S99)) × Bool) := (impl_GoodParts.f k l0 a1).bind fun t921 => (if t921 = true then ((impl_start.f k l0 a1).bind fun bt922 => (some (bt922.1, bt922.2, true))) else (some (0, ([] : List (S99)), false)))
theorem impl_StartTableau.mono : ∀ a0 a1 k, LeO (impl_StartTableau.f k a0 a1) (impl_StartTableau.f (k + 1) a0 a1) := by
 intro a0 a1 k
 unfold impl_StartTableau.f
 repeat' first
   | (with_reducible exact impl_GoodParts.mono _ _ _)
   | (with_reducible exact impl_start.mono _ _ _)
   | (with_reducible exact LeO.refl _)
   | (with_reducible exact LeO.none _)
   | (with_reducible refine LeO.ite ?_ ?_)
   | (with_reducible refine LeO.bind ?_ (fun _ => ?_))
   | exact impl_GoodParts.mono _ _ _
   | exact impl_start.mono _ _ _
   | exact LeO.none _
   | refine LeO.ite ?_ ?_
   | refine LeO.bind ?_ (fun _ => ?_)
set_option maxHeartbeats 8000000 in
set_option maxRecDepth 100000 in
theorem impl_StartTableau.calls (k : Nat) (A0 : Option Addr) (c0 : Nat) (l0 : List (List Int)) (a1 : Int) (r1 : Int) (r2 : List (S99)) (r3 : Bool) (w : World) (hr0 : Kd.C (Kd.slice 3 (Kd.int .i64)) w A0 l0.length l0) (hc0 : l0.length ≤ c0) (h : impl_StartTableau.f k l0 a1 = some (r1, r2, r3)) :
  Calls Try.prog 53 #[.slice A0 l0.length c0, .int .i64 a1] w fun e w' => ∃ v1_ : Value, e = .returned (.tuple #[.agg #[.int .i64 r1, v1_], .bool r3]) ∧ Kd.S k99 99 w' w.heap.size (fun _ => True) v1_ r2 ∧ Below w.heap.size w w' := by
 have hu44 := Try.underlying44
 have HR0 := xm hr0
 have HC0 := xm hc0
 clear hr0 hc0
 have HB := xm (Below.refl w.heap.size w)
 have H : ((impl_GoodParts.f k l0 a1).bind fun t921 => (if t921 = true then ((impl_start.f k l0 a1).bind fun bt922 => (some (bt922.1, bt922.2, true))) else (some (0, ([] : List (S99)), false)))) = some (r1, r2, r3) := h
 clear h
 replace H := Option.bind_eq_some_iff.mp H
 obtain ⟨t921, A30, H⟩ := H
 replace H : (if t921 = true then ((impl_start.f k l0 a1).bind fun bt922 => (some (bt922.1, bt922.2, true))) else (some (0, ([] : List (S99)), false))) = some (r1, r2, r3) := H
 have A3 := xm A30
 clear A30
 by_cases c4 : t921 = true
 ·subst c4
  have H1 : ((impl_start.f k l0 a1).bind fun bt922 => (some (bt922.1, bt922.2, true))) = some (r1, r2, r3) := by first | (with_reducible rfl) | (rw [if_pos rfl] at H; exact H)
  clear H
  have H := H1
  clear H1
  replace H := Option.bind_eq_some_iff.mp H
  obtain ⟨⟨t922, t923⟩, A50, H⟩ := H
  replace H : (some (t922, t923, true)) = some (r1, r2, r3) := H
  have A5 := xm A50
  clear A50
  simp only [Option.some.injEq, Prod.mk.injEq] at H
  obtain ⟨rfl, rfl, rfl⟩ := H
  go_enter Try.func53, Try.ntmps53
  go_wp2_with (first | ((with_reducible refine gate_dst (N := 4) rfl ?_); refine box_event ?hg (N := 4) ?hd (cs := #[.int .i64 0, .slice none 0 0]) (t := 44) ?hr ?_; (case hd => rfl); (case hg => rfl); (case hr => first | (go_simp; done) | (go_simp; rfl)); intro gb920 hg w6 hbox hb; have n0_ := xm (below_step (by repeat (first | (with_reducible first | exact HB.out | apply xa | apply xn | apply xd) | exact HB.out)) hb); have n1_ := xm (hbox); have n2_ := xm ((by rw [hg]; exact (xz (by repeat (first | (with_reducible first | exact HB.out | apply xa | apply xn | apply xd) | exact HB.out))) : w.heap.size ≤ gb920)); have n3_ := xm ((by rw [hg]; exact (xz (by repeat (first | (with_reducible first | exact HB.out | apply xa | apply xn | apply xd) | exact HB.out))) : w.heap.size ≤ gb920)); clear HB; have HB := n0_; have BK920 := n1_; have GW920 := n2_; have GE920 := n3_; clear n0_ n1_ n2_ n3_; clear hb hbox hg) | ((with_reducible refine gate_callee (f := 22) rfl ?_); refine goesL_ (some 8) rfl rfl Try.func22 (by kernel_rfl) rfl #[.slice A0 l0.length c0, .int .i64 a1] rfl (by (try simp only [List.map_toArray, List.map_cons, List.map_nil]); first | done | rfl | (simp only [List.length_drop, List.length_take]; rfl)) ?_; (with_reducible refine (impl_GoodParts.calls k _ _ l0 a1 true _ ?side1 ?side2 A3.out).mono ?_); (case side1 => repeat (first | exact (Kd.C_below HR0.out HB.out) | (with_reducible refine Kd.C_alloc ?_ _) | (with_reducible refine Kd.C_drewN ?_ _) | (with_reducible refine Kd.C_drew ?_))); (case side2 => exact HC0.out); rintro e w' ⟨rfl, ⟨nd, rfl⟩⟩; refine ⟨_, rfl, ?_⟩; (first | (rw [drewN_self w6]; generalize hq_ : World.drewN w6 _ = w6; have n0_ : Aside0 (w6.heap[gb920]? = some (.cells #[.int .i64 0, .slice none 0 0] 44 (0, 0))) := ⟨by rw [← hq_]; exact (by (with_reducible repeat (first | refine xq ?_ _ | refine xr ?_ | refine xo ?_ _)); exact BK920.out)⟩; have n1_ : Aside0 (Below w.heap.size w w6) := ⟨by rw [← hq_]; exact (by repeat (first | (with_reducible first | exact HB.out | apply xa | apply xn | apply xd | refine xt ?_ GE920.out) | exact HB.out))⟩; clear BK920 HB hq_; have BK920 := n0_; have HB := n1_; clear n0_ n1_) | (have n0_ : Aside0 (w6.heap[gb920]? = some (.cells #[.int .i64 0, .slice none 0 0] 44 (0, 0))) := ⟨(by (with_reducible repeat (first | refine xq ?_ _ | refine xr ?_ | refine xo ?_ _)); exact BK920.out)⟩; have n1_ : Aside0 (Below w.heap.size w w6) := ⟨(by repeat (first | (with_reducible first | exact HB.out | apply xa | apply xn | apply xd | refine xt ?_ GE920.out) | exact HB.out))⟩; clear BK920 HB; have BK920 := n0_; have HB := n1_; clear n0_ n1_))) | ((with_reducible refine gate_callee (f := 67) rfl ?_); refine goesL_ (some 13) rfl rfl Try.func67 (by kernel_rfl) rfl #[.slice A0 l0.length c0, .int .i64 a1] rfl (by (try simp only [List.map_toArray, List.map_cons, List.map_nil]); first | done | rfl | (simp only [List.length_drop, List.length_take]; rfl)) ?_; (with_reducible refine (impl_start.calls k _ _ l0 a1 t922 t923 _ ?side1 ?side2 A5.out).mono ?_); (case side1 => repeat (first | exact (Kd.C_below HR0.out HB.out) | (with_reducible refine Kd.C_alloc ?_ _) | (with_reducible refine Kd.C_drewN ?_ _) | (with_reducible refine Kd.C_drew ?_))); (case side2 => exact HC0.out); rintro e w7 ⟨v924, rfl, ho0, hb⟩; refine ⟨_, rfl, ?_⟩; have n0_ := xm (Kd.S_lower ho0 (xz (by repeat (first | (with_reducible first | exact HB.out | apply xa | apply xn | apply xd | refine xt ?_ GE920.out) | exact HB.out)))); have n1_ := xm (blk_below (g := gb920) (o := .cells #[.int .i64 0, .slice none 0 0] 44 (0, 0)) (by (with_reducible repeat (first | refine xq ?_ _ | refine xr ?_ | refine xo ?_ _)); exact BK920.out) hb); have n2_ := xm (below_step (by repeat (first | (with_reducible first | exact HB.out | apply xa | apply xn | apply xd | refine xt ?_ GE920.out) | exact HB.out)) hb); clear BK920; clear HB; have HO925 := n0_; have BK920 := n1_; have HB := n2_; clear n0_ n1_ n2_; (try clear hb); (try clear hb2); (try clear hk); (try clear hi); (try clear ho0); have hcz8_0 : w7.cell? ⟨gb920, 0, none⟩ = some (.int .i64 0) := (xc BK920.out 0).trans rfl; have hcz8_1 : w7.cell? ⟨gb920, 1, none⟩ = some (.slice none 0 0) := (xc BK920.out 1).trans rfl; have hfz8_0 := xf BK920.out 0; have hfz8_1 := xf BK920.out 1; obtain ⟨Ao9, co9, eo9⟩ := Kd.S_slice HO925.out; subst eo9))
  refine bodyPost_ret (results_ct rfl _ _ gb920 44 #[.int .i64 t922, .slice Ao9 t923.length co9] (0, 0) _ rfl (by (with_reducible repeat (first | refine xq ?_ _ | refine xr ?_ | refine xo ?_ _)); refine blk_put (cs := #[.int .i64 t922, .slice none 0 0]) ?_ 1 _ rfl; (with_reducible repeat (first | refine xq ?_ _ | refine xr ?_ | refine xo ?_ _)); refine blk_put (cs := #[.int .i64 0, .slice none 0 0]) ?_ 0 _ rfl; (with_reducible repeat (first | refine xq ?_ _ | refine xr ?_ | refine xo ?_ _)); exact BK920.out) Try.underlying44 rfl (by kernel_rfl)) rfl ?_
  exact ⟨_, by first | rfl | (simp [errW_none, errW_some] <;> rfl) | (simp [*, errW_none, errW_some] <;> rfl), by (with_reducible repeat (first | apply Kd.S_alloc | apply Kd.S_drewN | apply Kd.S_drew)); exact Kd.S_mono (Kd.S_far (p := ⟨gb920, 1, none⟩) (Kd.S_far (p := ⟨gb920, 0, none⟩) (Kd.S_types HO925.out BK920.out (by decide)) (fun _ hk => hk.2) (.int .i64 t922)) (fun _ hk => hk.2) (.slice Ao9 t923.length co9)) (fun _ hk => trivial), by repeat (first | (with_reducible first | exact HB.out | apply xa | apply xn | apply xd | refine xt ?_ GE920.out) | exact HB.out)⟩
 ·replace c4 := Bool.eq_false_iff.mpr c4
  subst c4
  have H1 : (some (0, ([] : List (S99)), false)) = some (r1, r2, r3) := by first | (with_reducible rfl) | (rw [if_neg (show ¬ (false = true) by decide)] at H; exact H)
  clear H
  have H := H1
  clear H1
  simp only [Option.some.injEq, Prod.mk.injEq] at H
  obtain ⟨rfl, rfl, rfl⟩ := H
  go_enter Try.func53, Try.ntmps53
  go_wp2_with (first | ((with_reducible refine gate_dst (N := 4) rfl ?_); refine box_event ?hg (N := 4) ?hd (cs := #[.int .i64 0, .slice none 0 0]) (t := 44) ?hr ?_; (case hd => rfl); (case hg => rfl); (case hr => first | (go_simp; done) | (go_simp; rfl)); intro gb920 hg w10 hbox hb; have n0_ := xm (below_step (by repeat (first | (with_reducible first | exact HB.out | apply xa | apply xn | apply xd) | exact HB.out)) hb); have n1_ := xm (hbox); have n2_ := xm ((by rw [hg]; exact (xz (by repeat (first | (with_reducible first | exact HB.out | apply xa | apply xn | apply xd) | exact HB.out))) : w.heap.size ≤ gb920)); have n3_ := xm ((by rw [hg]; exact (xz (by repeat (first | (with_reducible first | exact HB.out | apply xa | apply xn | apply xd) | exact HB.out))) : w.heap.size ≤ gb920)); clear HB; have HB := n0_; have BK920 := n1_; have GW920 := n2_; have GE920 := n3_; clear n0_ n1_ n2_ n3_; clear hb hbox hg) | ((with_reducible refine gate_callee (f := 22) rfl ?_); refine goesL_ (some 8) rfl rfl Try.func22 (by kernel_rfl) rfl #[.slice A0 l0.length c0, .int .i64 a1] rfl (by (try simp only [List.map_toArray, List.map_cons, List.map_nil]); first | done | rfl | (simp only [List.length_drop, List.length_take]; rfl)) ?_; (with_reducible refine (impl_GoodParts.calls k _ _ l0 a1 false _ ?side1 ?side2 A3.out).mono ?_); (case side1 => repeat (first | exact (Kd.C_below HR0.out HB.out) | (with_reducible refine Kd.C_alloc ?_ _) | (with_reducible refine Kd.C_drewN ?_ _) | (with_reducible refine Kd.C_drew ?_))); (case side2 => exact HC0.out); rintro e w' ⟨rfl, ⟨nd, rfl⟩⟩; refine ⟨_, rfl, ?_⟩; (first | (rw [drewN_self w10]; generalize hq_ : World.drewN w10 _ = w10; have n0_ : Aside0 (w10.heap[gb920]? = some (.cells #[.int .i64 0, .slice none 0 0] 44 (0, 0))) := ⟨by rw [← hq_]; exact (by (with_reducible repeat (first | refine xq ?_ _ | refine xr ?_ | refine xo ?_ _)); exact BK920.out)⟩; have n1_ : Aside0 (Below w.heap.size w w10) := ⟨by rw [← hq_]; exact (by repeat (first | (with_reducible first | exact HB.out | apply xa | apply xn | apply xd | refine xt ?_ GE920.out) | exact HB.out))⟩; clear BK920 HB hq_; have BK920 := n0_; have HB := n1_; clear n0_ n1_) | (have n0_ : Aside0 (w10.heap[gb920]? = some (.cells #[.int .i64 0, .slice none 0 0] 44 (0, 0))) := ⟨(by (with_reducible repeat (first | refine xq ?_ _ | refine xr ?_ | refine xo ?_ _)); exact BK920.out)⟩; have n1_ : Aside0 (Below w.heap.size w w10) := ⟨(by repeat (first | (with_reducible first | exact HB.out | apply xa | apply xn | apply xd | refine xt ?_ GE920.out) | exact HB.out))⟩; clear BK920 HB; have BK920 := n0_; have HB := n1_; clear n0_ n1_)); have hcz11_0 : w10.cell? ⟨gb920, 0, none⟩ = some (.int .i64 0) := (xc BK920.out 0).trans rfl; have hcz11_1 : w10.cell? ⟨gb920, 1, none⟩ = some (.slice none 0 0) := (xc BK920.out 1).trans rfl; have hfz11_0 := xf BK920.out 0; have hfz11_1 := xf BK920.out 1))
  refine bodyPost_ret (results_ct rfl _ _ gb920 44 #[.int .i64 0, .slice none 0 0] (0, 0) _ rfl (by (with_reducible repeat (first | refine xq ?_ _ | refine xr ?_ | refine xo ?_ _)); refine blk_put (cs := #[.int .i64 0, .slice none 0 0]) ?_ 1 _ rfl; (with_reducible repeat (first | refine xq ?_ _ | refine xr ?_ | refine xo ?_ _)); refine blk_put (cs := #[.int .i64 0, .slice none 0 0]) ?_ 0 _ rfl; (with_reducible repeat (first | refine xq ?_ _ | refine xr ?_ | refine xo ?_ _)); exact BK920.out) Try.underlying44 rfl (by kernel_rfl)) rfl ?_
  exact ⟨_, by first | rfl | (simp [errW_none, errW_some] <;> rfl) | (simp [*, errW_none, errW_some] <;> rfl), by first | exact Kd.S_nil _ _ _ _ _ | exact Kd.N_nil _ _ _ _ _ | exact Kd.V_nil _ _ _ _ _ | exact Kd.Q_nil _ _ _ _ _ | exact Kd.R_nil _ _ _ _ _, by repeat (first | (with_reducible first | exact HB.out | apply xa | apply xn | apply xd | refine xt ?_ GE920.out) | exact HB.out)⟩

/-! ### laws_markRowS: function 110 -/
def laws_markRowS.f (q : Nat) : List S99 → Int → Option (Int × List S99)
 | [], a => some (a, [])
 | x :: xs, a => (laws_markIntS.f q x.f0 a).bind fun t1 => (laws_markRowS.f q xs t1.1).bind fun s => some (s.1, (⟨t1.2⟩ : S99) :: s.2)
theorem laws_markRowS.mono : ∀ a0 a1 k, LeO (laws_markRowS.f k a0 a1) (laws_markRowS.f (k + 1) a0 a1)
 | [], _, _ => LeO.refl _
 | x :: xs, a, k => by
  unfold laws_markRowS.f
  repeat' first | exact LeO.refl _ | exact laws_markIntS.mono _ _ _ | exact laws_markRowS.mono xs _ _ | refine LeO.bind ?_ (fun _ => ?_)
set_option maxHeartbeats 8000000 in
set_option maxRecDepth 100000 in
theorem laws_markRowS.calls (k : Nat) (P0_ : Nat → Prop) (u9000_ : Value) (l0 : List S99) (a1 : Int) (r1 : Int) (r2 : List S99) (w0 w : World) (hB : Below w0.heap.size w0 w) (ho0 : Kd.S k99 99 w w0.heap.size P0_ u9000_ l0) (h : laws_markRowS.f k l0 a1 = some (r1, r2)) :
  Calls Try.prog 110 #[u9000_, .int .i64 a1] w fun e w' => e = .returned (.int .i64 r1) ∧ Kd.S k99 99 w' w0.heap.size P0_ u9000_ r2 ∧ Below w0.heap.size w0 w' ∧ Kept w w' P0_ := by
 obtain ⟨A0, c0, rfl⟩ := Kd.S_slice ho0
 have HS0 := xm ho0
 have HB0 := xm hB
 have HK0 := xm (Kept.refl w P0_)
 have H0 := xm h
 have hlen := (Kd.S_reads' ho0).2.2.2.1
 clear ho0 hB h
 go_enter Try.func110, Try.ntmps110
 go_wp2
 go_loopg [1, 5] l0.length (fun kq v1 v5 w' => ∃ (ys zs ws : List S99) (b x5 : Int), v1 = .int .i64 b ∧ v5 = .int .i64 x5 ∧ Aside0 (x5 = ys.length) ∧ Aside0 (ys.length + zs.length = l0.length) ∧ Aside0 (zs.length ≤ kq) ∧ Aside0 (laws_markRowS.f k zs b = some (r1, ws)) ∧ Aside0 (r2 = ys ++ ws) ∧ Aside0 (Kd.S k99 99 w' w0.heap.size P0_ (.slice A0 l0.length c0) (ys ++ zs)) ∧ Aside0 (Kept w w' P0_) ∧ Aside0 (Below w0.heap.size w0 w'))
 case atStart => exact ⟨[], l0, r2, a1, 0, rfl, rfl, ⟨rfl⟩, ⟨by simp⟩, ⟨Nat.le_refl _⟩, H0, ⟨rfl⟩, HS0, HK0, HB0⟩
 case round =>
  clear HS0 HK0 HB0 H0
  obtain ⟨ys, zs, ws, b, x5, rfl, rfl, hx5, hyz, hzk, HF, HR, HS, HK, HB⟩ := hrel
  have h50 := hx5.out
  have h51 := hyz.out
  cases zs with
  | nil =>
   have hc : decide (x5 < (l0.length : Int)) = false := decide_eq_false (by simp at h51; omega)
   have hf := HF.out
   unfold laws_markRowS.f at hf
   simp only [Option.some.injEq, Prod.mk.injEq] at hf
   obtain ⟨rfl, rfl⟩ := hf
   have HR2 := HR.out
   rw [List.append_nil] at HR2
   subst HR2
   have HS2 := HS.out
   rw [List.append_nil] at HS2
   have HS3 := xm HS2
   clear HS2 HS HF HR h50 h51 hx5 hyz hzk
   go_wp2
   go_ret
   exact ⟨rfl, HS3.out, HB.out, HK.out⟩
  | cons x zs =>
   have hzc : (x :: zs).length = zs.length + 1 := rfl
   have hc : decide (x5 < (l0.length : Int)) = true := decide_eq_true (by omega)
   have hf := HF.out
   unfold laws_markRowS.f at hf
   obtain ⟨⟨t1_1, t1_2⟩, hAt1, hf⟩ := Option.bind_eq_some_iff.mp hf
   obtain ⟨⟨s_1, s_2⟩, hN, hf⟩ := Option.bind_eq_some_iff.mp hf
   simp only [Option.some.injEq, Prod.mk.injEq] at hf
   obtain ⟨rfl, hws⟩ := hf
   have HN := xm hN
   have HW := xm hws
   clear hN hws HF
   have HAt1 := xm hAt1
   clear hAt1
   obtain ⟨go, co, eo, gb, _, _⟩ := Kd.S_form HS.out (by rw [List.length_append]; omega)
   (injection eo with ea_ en_ ec_; subst ea_; subst ec_; clear en_)
   have hi0 : 0 ≤ x5 := by omega
   have hi1 : x5 < (l0.length : Int) := by omega
   have hit : x5.toNat = ys.length := by omega
   have hset : ∀ y z : S99, (ys ++ y :: zs).set x5.toNat z = ys ++ z :: zs := fun y z => by rw [hit]; simp
   have hget : ∀ (y z : S99), (ys ++ y :: zs).getD x5.toNat z = y := fun y z => by rw [hit]; simp
   have HI := xm (And.intro hi0 (And.intro hi1 (And.intro gb (And.intro hset hget))))
   have HL5 := xm (And.intro h50 (And.intro h51 (And.intro hzc hlen)))
   clear hit hset hget gb h50 h51 hzc
   obtain ⟨oki, ce, hcl, hM, hcc, hfr, hoki, hH⟩ := Kd.S_elem HS.out z99 x5 HI.out.1 HI.out.2.1
   rw [HI.out.2.2.2.2] at hM
   obtain ⟨v0, rfl, g0⟩ := k99_openM hM
   obtain ⟨Ai, ci, ei⟩ := Kd.R_slice g0
   subst ei
   have hx0 : wr.cell? ⟨go, x5.toNat, none⟩ = some (.slice Ai x.f0.length ci) := (by have z_ := hcc 0 _ rfl; (try simp only [show (k99).sz = 1 from rfl, Nat.mul_one, Nat.add_zero] at z_); exact z_)
   have hz0 : wr.frozen? ⟨go, x5.toNat, none⟩ = false := (by have z_ := hfr 0; (try simp only [show (k99).sz = 1 from rfl, Nat.mul_one, Nat.add_zero] at z_); exact z_)
   have HH := xm hH
   have HG := xm g0
   have HO := xm hoki
   have HC := xm hcl
   (try clear hM)
   clear hcl hcc hfr hoki hH g0
   go_wp2_with (go_at_call 37; refine (laws_markIntS.calls k (fun k_ => some k_ = (.slice Ai x.f0.length ci : Value).ownBlock) (.slice Ai x.f0.length ci) x.f0 b t1_1 t1_2 w0 _ HB.out (Kd.R_tight rfl HG.out) HAt1.out).mono ?_; rintro e w1_ ⟨rfl, hy, hb, hkp⟩; have n0_ := xm (by rw [← HI.out.2.2.2.1 (⟨x.f0⟩ : S99) (⟨t1_2⟩ : S99)]; exact Kd.H_back (x' := (⟨t1_2⟩ : S99)) (Kd.H_step HH.out (fun k_ _ hn_ hlt_ => hkp.2 k_ hlt_ (fun hs_ => hn_ (HG.out.1 k_ hs_.symm)))) (k99_mkM w1_ w0.heap.size oki (⟨t1_2⟩ : S99) (Kd.R_reok rfl hy (fun k_ e_ => HG.out.1 k_ e_))) (fun _ h_ => h_) : Kd.S k99 99 w1_ w0.heap.size P0_ (.slice (some ⟨go, 0, none⟩) l0.length c0) (ys ++ (⟨t1_2⟩ : S99) :: zs)); have n1_ := xm (Kept.then_ HK.out hkp (fun k_ hs_ => .inl (HO.out k_ (HG.out.1 k_ hs_.symm)).1)); have n2_ := xm hb; clear HS HK HB hb hkp hy HH HG HO HC hx0 hz0; have HS := n0_; have HK := n1_; have HB := n2_; clear n0_ n1_ n2_)
   go_wp2
   go_roundg zs.length
   case measure => have z_ := hzk.out; simp at z_; omega
   case rel =>
    have hw5 : wrap64 (x5 + 1) = x5 + 1 := by have := HL5.out; unfold wrap64; omega
    refine ⟨ys ++ [(⟨t1_2⟩ : S99)], zs, s_2, t1_1, wrap64 (x5 + 1), (by first | rfl | (simp; done) | (simp [*]; done)), (by first | rfl | (simp; done) | (simp [*]; done)), ⟨?_⟩, ⟨?_⟩, ⟨Nat.le_refl _⟩, HN, ⟨?_⟩, ⟨?_⟩, HK, HB⟩
    ·rw [hw5, HL5.out.1]; simp
    ·have := HL5.out; simp; omega
    ·rw [HR.out, ← HW.out]; simp
    ·have z_ := HS.out; simpa using z_

/-! ### laws_markTableau: function 55 -/
def laws_markTableau.f (k : Nat) (a0_0 : Int) (l0_1 : List (S99)) (a1 : Int) : Option (Int × (List (S99))) := (laws_markRowS.f k l0_1 a1).bind fun t3b => some (t3b.1, t3b.2)
theorem laws_markTableau.mono : ∀ a0_ a1_ a2_ k, LeO (laws_markTableau.f k a0_ a1_ a2_) (laws_markTableau.f (k + 1) a0_ a1_ a2_) := by
 intro a0_ a1_ a2_ k
 unfold laws_markTableau.f
 repeat' first
  | (with_reducible exact laws_markRowS.mono _ _ _)
  | (with_reducible exact LeO.refl _)
  | (with_reducible exact LeO.none _)
  | (with_reducible refine LeO.ite ?_ ?_)
  | (with_reducible refine LeO.bind ?_ (fun _ => ?_))
  | exact laws_markRowS.mono _ _ _
set_option maxHeartbeats 8000000 in
set_option maxRecDepth 100000 in
theorem laws_markTableau.calls (k : Nat) (a0_0 : Int) (P0_1_ : Nat → Prop) (u9000_ : Value) (l0_1 : List (S99)) (a1 : Int) (r1 : Int) (r2 : List (S99)) (w0 w : World) (hB : Below w0.heap.size w0 w) (ho0_1 : Kd.S k99 99 w w0.heap.size P0_1_ u9000_ l0_1) (h : laws_markTableau.f k a0_0 l0_1 a1 = some (r1, r2)) :
  Calls Try.prog 55 #[.agg #[.int .i64 a0_0, u9000_], .int .i64 a1] w fun e w' => e = .returned (.int .i64 r1) ∧ Kd.S k99 99 w' w0.heap.size P0_1_ u9000_ r2 ∧ Below w0.heap.size w0 w' ∧ Kept w w' (fun k_ => P0_1_ k_) := by
 obtain ⟨A0_1, c0_1, rfl⟩ := Kd.S_slice ho0_1
 have F0_1 := xm (Kd.S_mono (ok' := fun k_ => P0_1_ k_ ∧ k_ < w.heap.size) (Kd.S_bound ho0_1) (fun k_ h_ => ⟨h_.1, h_.2.2.1⟩))
 have hu44 := Try.underlying44
 have HB := xm hB
 have HK := xm (Kept.refl w (fun k_ => P0_1_ k_))
 have Z0 := xm hB.size
 clear hB ho0_1
 unfold laws_markTableau.f at h
 obtain ⟨⟨t3_0, t3_1⟩, t3A0, h⟩ := Option.bind_eq_some_iff.mp h
 (try dsimp only at h)
 have t3A := xm t3A0
 clear t3A0
 simp only [Option.some.injEq, Prod.mk.injEq] at h
 obtain ⟨rfl, rfl⟩ := h
 go_enter Try.func55, Try.ntmps55
 go_wp2_with (first
  | ((with_reducible refine gate_dst (N := 2) rfl ?_); refine box_event ?hgq2 (N := 2) ?hdq2 (cs := #[.int .i64 a0_0, .slice A0_1 l0_1.length c0_1]) (t := 44) ?hrq2 ?_; (case hdq2 => rfl); (case hgq2 => rfl); (case hrq2 => first | (go_simp; done) | (go_simp; rfl)); intro g1 hg_ w1_ hbox_ hb_; have Z1 := xm (hb_.size : w.heap.size ≤ w1_.heap.size); have hk_ := Kept.of_below hb_ (fun _ => False); have m0_ := xm (Kd.S_kept (by (with_reducible repeat (first | apply Kd.S_alloc | apply Kd.S_drewN | apply Kd.S_drew)); exact F0_1.out) hk_ (fun _ _ h_ => h_)); clear F0_1; have F0_1 := m0_; clear m0_; have m0_ := xm (below_step (w := w0) (by repeat (first | (with_reducible first | exact HB.out | apply xa | apply xn | apply xd) | exact HB.out)) hb_); clear HB; have HB := m0_; have m1_ := xm (HK.out.then_ hk_ (fun _ h_ => h_.elim)); clear HK; have HK := m1_; clear m1_; have BKg1 := xm hbox_; have GBg1 : Aside0 (w.heap.size ≤ g1 ∧ g1 < w1_.heap.size) := xm ⟨by rw [hg_]; exact Nat.le_refl _, blk_lt hbox_⟩; clear m0_ hb_ hbox_ hg_ hk_; (try clear hcg1_0 hfg1_0); have hcg1_0 : w1_.cell? ⟨g1, 0, none⟩ = some (.int .i64 a0_0) := (xc BKg1.out 0).trans rfl; have hfg1_0 := xf BKg1.out 0; (try clear hcg1_1 hfg1_1); have hcg1_1 : w1_.cell? ⟨g1, 1, none⟩ = some (.slice A0_1 l0_1.length c0_1) := (xc BKg1.out 1).trans rfl; have hfg1_1 := xf BKg1.out 1)
  | ((with_reducible refine gate_callee (f := 110) rfl ?_); refine goesL_ (some 8) rfl rfl Try.func110 (by kernel_rfl) rfl #[.slice A0_1 l0_1.length c0_1, .int .i64 a1] rfl (by (try simp only [List.map_toArray, List.map_cons, List.map_nil]); first | done | rfl) ?_; refine (laws_markRowS.calls k (fun k_ => P0_1_ k_ ∧ k_ < w.heap.size) (.slice A0_1 l0_1.length c0_1) l0_1 a1 t3_0 t3_1 w0 _ (by repeat (first | (with_reducible first | exact HB.out | apply xa | apply xn | apply xd) | exact HB.out)) (by (with_reducible repeat (first | apply Kd.S_alloc | apply Kd.S_drewN | apply Kd.S_drew)); exact F0_1.out) t3A.out).mono ?_; rintro e w2_ ⟨rfl, h0_, hb_, hkp_⟩; refine ⟨_, rfl, ?_⟩; have Z2 := xm (hkp_.1 : w1_.heap.size ≤ w2_.heap.size); have yF0_1 := xm h0_; have m0_ := xm (blk_kept (by (with_reducible repeat (first | refine xq ?_ _ | refine xr ?_ | refine xo ?_ _)); exact BKg1.out) hkp_ (fun h2_ => by have u_ := GBg1.out; have u2_ := h2_.2; omega)); clear BKg1; have BKg1 := m0_; clear m0_; clear F0_1; have F0_1 := yF0_1; clear yF0_1; clear HB; have HB := xm hb_; have m1_ := xm (HK.out.then_ hkp_ (fun _ h_ => .inl h_.1)); clear HK; have HK := m1_; clear m1_; clear hb_ hkp_ h0_; (try clear LEF0_1); have LEF0_1 := xm (Kd.S_reads' F0_1.out).1; (try clear hcg1_0 hfg1_0); have hcg1_0 : w2_.cell? ⟨g1, 0, none⟩ = some (.int .i64 a0_0) := (xc BKg1.out 0).trans rfl; have hfg1_0 := xf BKg1.out 0; (try clear hcg1_1 hfg1_1); have hcg1_1 : w2_.cell? ⟨g1, 1, none⟩ = some (.slice A0_1 l0_1.length c0_1) := (xc BKg1.out 1).trans rfl; have hfg1_1 := xf BKg1.out 1))
 go_wp2
 go_ret
 exact ⟨rfl, Kd.S_mono F0_1.out (fun _ h_ => h_.1), HB.out, HK.out⟩

/-! ### laws_heldRowS: function 111 -/
def laws_heldRowS.l0 : Nat → List (S99) → Int → Int → Option (Int)
 | 0, _, _, _ => none
 | k + 1, x0, x1, x5 => if x5 < (x0.length : Int) then (if 0 ≤ x5 then ((laws_heldIntS.f k ((rd_T99 x0 x5).f0) x1).bind fun t927 => (if t927 < 0 then (some (-1)) else (laws_heldRowS.l0 k x0 t927 (wrap64 (x5 + 1))))) else (none)) else (some x1)
def laws_heldRowS.f (k : Nat) (l0 : List (S99)) (a1 : Int) : Option (Int) := laws_heldRowS.l0 k l0 a1 0
theorem laws_heldRowS.mono_l : ∀ k, (∀ y0 y1 y2, LeO (laws_heldRowS.l0 k y0 y1 y2) (laws_heldRowS.l0 (k + 1) y0 y1 y2))
 | 0 => fun _ _ _ r h => by simp [laws_heldRowS.l0] at h
 | k + 1 => by
  have ih0 := laws_heldRowS.mono_l k
  ·intro y0 y1 y2
   unfold laws_heldRowS.l0
   repeat' first
   | (with_reducible exact ih0 _ _ _)
   | (with_reducible exact laws_heldIntS.mono _ _ _)
   | (with_reducible exact LeO.refl _)
   | (with_reducible exact LeO.none _)
   | (with_reducible refine LeO.ite ?_ ?_)
   | (with_reducible refine LeO.bind ?_ (fun _ => ?_))
   | exact ih0 _ _ _
   | exact laws_heldIntS.mono _ _ _
   | exact LeO.none _
   | refine LeO.ite ?_ ?_
   | refine LeO.bind ?_ (fun _ => ?_)
theorem laws_heldRowS.mono : ∀ a0 a1 k, LeO (laws_heldRowS.f k a0 a1) (laws_heldRowS.f (k + 1) a0 a1) := by
 intro a0 a1 k
 have ih0 := laws_heldRowS.mono_l k
 unfold laws_heldRowS.f
 repeat' first
   | (with_reducible exact ih0 _ _ _)
   | (with_reducible exact laws_heldIntS.mono _ _ _)
   | (with_reducible exact LeO.refl _)
   | (with_reducible exact LeO.none _)
   | (with_reducible refine LeO.ite ?_ ?_)
   | (with_reducible refine LeO.bind ?_ (fun _ => ?_))
   | exact ih0 _ _ _
   | exact laws_heldIntS.mono _ _ _
   | exact LeO.none _
   | refine LeO.ite ?_ ?_
   | refine LeO.bind ?_ (fun _ => ?_)
set_option maxHeartbeats 8000000 in
set_option maxRecDepth 100000 in
theorem laws_heldRowS.calls (k : Nat) (A0 : Option Addr) (c0 : Nat) (l0 : List (S99)) (a1 : Int) (r : Int) (w : World) (hr0 : Kd.C k99 w A0 l0.length l0) (hc0 : l0.length ≤ c0) (h : laws_heldRowS.f k l0 a1 = some r) :
  Calls Try.prog 111 #[.slice A0 l0.length c0, .int .i64 a1] w fun e w' => e = .returned (.int .i64 r) ∧ Drawn0 w w' := by
 have HR0 := xm hr0
 have HC0 := xm hc0
 clear hr0 hc0
 have H : (laws_heldRowS.l0 k l0 a1 0) = some r := h
 clear h
 have H' := xm H
 clear H
 go_enter Try.func111, Try.ntmps111
 go_wp2
 go_loopg [1, 5] k (fun kq v1 v5 w' => ∃ (x1_1 : Int) (x5_1 : Int), v1 = .int .i64 x1_1 ∧ v5 = .int .i64 x5_1 ∧ Aside0 (laws_heldRowS.l0 kq l0 x1_1 x5_1 = some r) ∧ Aside0 (kq ≤ k) ∧ Drawn0 w w')
 case atStart => exact ⟨(a1), (0), (by first | rfl | (simp; done) | (simp [*]; done)), (by first | rfl | (simp; done) | (simp [*]; done)), H', ⟨Nat.le_refl _⟩, by repeat (first | exact Drawn0.refl _ | apply Drawn0.step)⟩
 case round =>
  clear H'
  try clear c1
  try clear p2
  obtain ⟨x1_1, x5_1, rfl, rfl, HA, HK1, ⟨m1, rfl⟩⟩ := hrel
  cases gk with
  | zero => exact absurd HA.out (by simp [laws_heldRowS.l0])
  | succ k1 =>
   have H := HA.out
   clear HA
   simp only [laws_heldRowS.l0] at H
   by_cases c3 : x5_1 < (l0.length : Int)
   ·rw [if_pos c3] at H
    have c3b0 : decide (x5_1 < (l0.length : Int)) = true := decide_eq_true c3
    clear c3
    by_cases c4 : 0 ≤ x5_1
    ·rw [if_pos c4] at H
     have c4b0 : decide (0 ≤ x5_1) = true := decide_eq_true c4
     clear c4
     replace H := Option.bind_eq_some_iff.mp H
     obtain ⟨t927, A50, H⟩ := H
     replace H : (if t927 < 0 then (some (-1)) else (laws_heldRowS.l0 k1 l0 t927 (wrap64 (x5_1 + 1)))) = some r := H
     have A5 := xm A50
     clear A50
     by_cases c6 : t927 < 0
     ·rw [if_pos c6] at H
      have c6b0 : decide (t927 < 0) = true := decide_eq_true c6
      clear c6
      obtain rfl := Option.some.inj H
      have p926 : 0 ≤ (x5_1 : Int) := of_decide_eq_true (by first | (with_reducible assumption) | assumption)
      have q926 : x5_1 < (l0.length : Int) := of_decide_eq_true (by first | (with_reducible assumption) | assumption)
      obtain ⟨ad926, A926_0, c926_0, e926, hx926_0, hl926_0, hi926_0⟩ := at_T99 HR0.out x5_1 p926 q926
      cases e926
      have HR926_0 := xm hi926_0
      have HC926_0 := xm hl926_0
      clear hi926_0 hl926_0
      replace p926 := eq_true p926
      replace q926 := eq_true q926
      go_wp2_with (first | ((with_reducible refine gate_callee (f := 38) rfl ?_); refine goesL_ (some 18) rfl rfl Try.func38 (by kernel_rfl) rfl #[.slice A926_0 ((rd_T99 l0 x5_1).f0).length c926_0, .int .i64 x1_1] rfl (by (try simp only [List.map_toArray, List.map_cons, List.map_nil]); first | done | rfl | (simp only [List.length_drop, List.length_take]; rfl)) ?_; (with_reducible refine (laws_heldIntS.calls k1 _ _ ((rd_T99 l0 x5_1).f0) x1_1 t927 _ ?side1 ?side2 A5.out).mono ?_); (case side1 => repeat (first | exact HR926_0.out | (with_reducible refine Kd.C_alloc ?_ _) | (with_reducible refine Kd.C_drewN ?_ _) | (with_reducible refine Kd.C_drew ?_))); (case side2 => exact HC926_0.out); rintro e w' ⟨rfl, ⟨nd, rfl⟩⟩; refine ⟨_, rfl, ?_⟩))
      go_ret
      exact ⟨by first | rfl | (simp; done) | (simp [*]; done), by repeat (first | exact Drawn0.refl _ | apply Drawn0.step)⟩
     ·rw [if_neg c6] at H
      have c6b0 : decide (t927 < 0) = false := decide_eq_false c6
      clear c6
      have H' := xm H
      clear H
      have p926 : 0 ≤ (x5_1 : Int) := of_decide_eq_true (by first | (with_reducible assumption) | assumption)
      have q926 : x5_1 < (l0.length : Int) := of_decide_eq_true (by first | (with_reducible assumption) | assumption)
      obtain ⟨ad926, A926_0, c926_0, e926, hx926_0, hl926_0, hi926_0⟩ := at_T99 HR0.out x5_1 p926 q926
      cases e926
      have HR926_0 := xm hi926_0
      have HC926_0 := xm hl926_0
      clear hi926_0 hl926_0
      replace p926 := eq_true p926
      replace q926 := eq_true q926
      go_wp2_with (first | ((with_reducible refine gate_callee (f := 38) rfl ?_); refine goesL_ (some 18) rfl rfl Try.func38 (by kernel_rfl) rfl #[.slice A926_0 ((rd_T99 l0 x5_1).f0).length c926_0, .int .i64 x1_1] rfl (by (try simp only [List.map_toArray, List.map_cons, List.map_nil]); first | done | rfl | (simp only [List.length_drop, List.length_take]; rfl)) ?_; (with_reducible refine (laws_heldIntS.calls k1 _ _ ((rd_T99 l0 x5_1).f0) x1_1 t927 _ ?side1 ?side2 A5.out).mono ?_); (case side1 => repeat (first | exact HR926_0.out | (with_reducible refine Kd.C_alloc ?_ _) | (with_reducible refine Kd.C_drewN ?_ _) | (with_reducible refine Kd.C_drew ?_))); (case side2 => exact HC926_0.out); rintro e w' ⟨rfl, ⟨nd, rfl⟩⟩; refine ⟨_, rfl, ?_⟩))
      go_roundg k1
      case measure => have := HK1.out; omega
      case rel => exact ⟨(t927), (wrap64 (x5_1 + 1)), (by first | rfl | (simp; done) | (simp [*]; done)), (by first | rfl | (simp; done) | (simp [*]; done)), H', ⟨by have := HK1.out; omega⟩, by repeat (first | exact Drawn0.refl _ | apply Drawn0.step)⟩
    ·rw [if_neg c4] at H
     exact absurd H (by simp)
   ·rw [if_neg c3] at H
    have c3b0 : decide (x5_1 < (l0.length : Int)) = false := decide_eq_false c3
    clear c3
    obtain rfl := Option.some.inj H
    go_wp2
    go_ret
    exact ⟨by first | rfl | (simp; done) | (simp [*]; done), by repeat (first | exact Drawn0.refl _ | apply Drawn0.step)⟩

/-! ### laws_heldTableau: function 56 -/
def laws_heldTableau.f (k : Nat) (a0_0 : Int) (l0_1 : List (S99)) (a1 : Int) : Option (Int) := (laws_heldRowS.f k l0_1 a1).bind fun t929 => (if t929 < 0 then (some (-1)) else (some t929))
theorem laws_heldTableau.mono : ∀ a0 a1 a2 k, LeO (laws_heldTableau.f k a0 a1 a2) (laws_heldTableau.f (k + 1) a0 a1 a2) := by
 intro a0 a1 a2 k
 unfold laws_heldTableau.f
 repeat' first
   | (with_reducible exact laws_heldRowS.mono _ _ _)
   | (with_reducible exact LeO.refl _)
   | (with_reducible exact LeO.none _)
   | (with_reducible refine LeO.ite ?_ ?_)
   | (with_reducible refine LeO.bind ?_ (fun _ => ?_))
   | exact laws_heldRowS.mono _ _ _
   | exact LeO.none _
   | refine LeO.ite ?_ ?_
   | refine LeO.bind ?_ (fun _ => ?_)
set_option maxHeartbeats 8000000 in
set_option maxRecDepth 100000 in
theorem laws_heldTableau.calls (k : Nat) (a0_0 : Int) (A0_1 : Option Addr) (c0_1 : Nat) (l0_1 : List (S99)) (a1 : Int) (r : Int) (w : World) (hr0_1 : Kd.C k99 w A0_1 l0_1.length l0_1) (hc0_1 : l0_1.length ≤ c0_1) (h : laws_heldTableau.f k a0_0 l0_1 a1 = some r) :
  Calls Try.prog 56 #[.agg #[.int .i64 a0_0, .slice A0_1 l0_1.length c0_1], .int .i64 a1] w fun e w' => e = .returned (.int .i64 r) ∧ Below w.heap.size w w' := by
 have hu44 := Try.underlying44
 have HR0_1 := xm hr0_1
 have HC0_1 := xm hc0_1
 clear hr0_1 hc0_1
 have HB := xm (Below.refl w.heap.size w)
 have H : ((laws_heldRowS.f k l0_1 a1).bind fun t929 => (if t929 < 0 then (some (-1)) else (some t929))) = some r := h
 clear h
 replace H := Option.bind_eq_some_iff.mp H
 obtain ⟨t929, A30, H⟩ := H
 replace H : (if t929 < 0 then (some (-1)) else (some t929)) = some r := H
 have A3 := xm A30
 clear A30
 by_cases c4 : t929 < 0
 ·rw [if_pos c4] at H
  have c4b0 : decide (t929 < 0) = true := decide_eq_true c4
  clear c4
  obtain rfl := Option.some.inj H
  go_enter Try.func56, Try.ntmps56
  go_wp2_with (first | ((with_reducible refine gate_dst (N := 2) rfl ?_); refine box_event ?hg (N := 2) ?hd (cs := #[.int .i64 a0_0, .slice A0_1 l0_1.length c0_1]) (t := 44) ?hr ?_; (case hd => rfl); (case hg => rfl); (case hr => first | (go_simp; done) | (go_simp; rfl)); intro gb928 hg w5 hbox hb; have n0_ := xm (below_step (by repeat (first | (with_reducible first | exact HB.out | apply xa | apply xn | apply xd) | exact HB.out)) hb); have n1_ := xm (hbox); have n2_ := xm ((by rw [hg]; exact (xz (by repeat (first | (with_reducible first | exact HB.out | apply xa | apply xn | apply xd) | exact HB.out))) : w.heap.size ≤ gb928)); have n3_ := xm ((by rw [hg]; exact (xz (by repeat (first | (with_reducible first | exact HB.out | apply xa | apply xn | apply xd) | exact HB.out))) : w.heap.size ≤ gb928)); clear HB; have HB := n0_; have BK928 := n1_; have GW928 := n2_; have GE928 := n3_; clear n0_ n1_ n2_ n3_; clear hb hbox hg; have hcz6_0 : w5.cell? ⟨gb928, 0, none⟩ = some (.int .i64 a0_0) := (xc BK928.out 0).trans rfl; have hcz6_1 : w5.cell? ⟨gb928, 1, none⟩ = some (.slice A0_1 l0_1.length c0_1) := (xc BK928.out 1).trans rfl; have hfz6_0 := xf BK928.out 0; have hfz6_1 := xf BK928.out 1) | ((with_reducible refine gate_callee (f := 111) rfl ?_); refine goesL_ (some 8) rfl rfl Try.func111 (by kernel_rfl) rfl #[.slice A0_1 l0_1.length c0_1, .int .i64 a1] rfl (by (try simp only [List.map_toArray, List.map_cons, List.map_nil]); first | done | rfl | (simp only [List.length_drop, List.length_take]; rfl)) ?_; (with_reducible refine (laws_heldRowS.calls k _ _ l0_1 a1 t929 _ ?side1 ?side2 A3.out).mono ?_); (case side1 => repeat (first | exact (Kd.C_below HR0_1.out HB.out) | (with_reducible refine Kd.C_alloc ?_ _) | (with_reducible refine Kd.C_drewN ?_ _) | (with_reducible refine Kd.C_drew ?_))); (case side2 => exact HC0_1.out); rintro e w' ⟨rfl, ⟨nd, rfl⟩⟩; refine ⟨_, rfl, ?_⟩))
  go_ret
  exact ⟨by first | rfl | (simp [errW_none, errW_some] <;> rfl) | (simp [*, errW_none, errW_some] <;> rfl), by repeat (first | (with_reducible first | exact HB.out | apply xa | apply xn | apply xd | refine xt ?_ GE928.out) | exact HB.out)⟩
 ·rw [if_neg c4] at H
  have c4b0 : decide (t929 < 0) = false := decide_eq_false c4
  clear c4
  obtain rfl := Option.some.inj H
  go_enter Try.func56, Try.ntmps56
  go_wp2_with (first | ((with_reducible refine gate_dst (N := 2) rfl ?_); refine box_event ?hg (N := 2) ?hd (cs := #[.int .i64 a0_0, .slice A0_1 l0_1.length c0_1]) (t := 44) ?hr ?_; (case hd => rfl); (case hg => rfl); (case hr => first | (go_simp; done) | (go_simp; rfl)); intro gb928 hg w7 hbox hb; have n0_ := xm (below_step (by repeat (first | (with_reducible first | exact HB.out | apply xa | apply xn | apply xd) | exact HB.out)) hb); have n1_ := xm (hbox); have n2_ := xm ((by rw [hg]; exact (xz (by repeat (first | (with_reducible first | exact HB.out | apply xa | apply xn | apply xd) | exact HB.out))) : w.heap.size ≤ gb928)); have n3_ := xm ((by rw [hg]; exact (xz (by repeat (first | (with_reducible first | exact HB.out | apply xa | apply xn | apply xd) | exact HB.out))) : w.heap.size ≤ gb928)); clear HB; have HB := n0_; have BK928 := n1_; have GW928 := n2_; have GE928 := n3_; clear n0_ n1_ n2_ n3_; clear hb hbox hg; have hcz8_0 : w7.cell? ⟨gb928, 0, none⟩ = some (.int .i64 a0_0) := (xc BK928.out 0).trans rfl; have hcz8_1 : w7.cell? ⟨gb928, 1, none⟩ = some (.slice A0_1 l0_1.length c0_1) := (xc BK928.out 1).trans rfl; have hfz8_0 := xf BK928.out 0; have hfz8_1 := xf BK928.out 1) | ((with_reducible refine gate_callee (f := 111) rfl ?_); refine goesL_ (some 8) rfl rfl Try.func111 (by kernel_rfl) rfl #[.slice A0_1 l0_1.length c0_1, .int .i64 a1] rfl (by (try simp only [List.map_toArray, List.map_cons, List.map_nil]); first | done | rfl | (simp only [List.length_drop, List.length_take]; rfl)) ?_; (with_reducible refine (laws_heldRowS.calls k _ _ l0_1 a1 t929 _ ?side1 ?side2 A3.out).mono ?_); (case side1 => repeat (first | exact (Kd.C_below HR0_1.out HB.out) | (with_reducible refine Kd.C_alloc ?_ _) | (with_reducible refine Kd.C_drewN ?_ _) | (with_reducible refine Kd.C_drew ?_))); (case side2 => exact HC0_1.out); rintro e w' ⟨rfl, ⟨nd, rfl⟩⟩; refine ⟨_, rfl, ?_⟩))
  go_ret
  exact ⟨by first | rfl | (simp [errW_none, errW_some] <;> rfl) | (simp [*, errW_none, errW_some] <;> rfl), by repeat (first | (with_reducible first | exact HB.out | apply xa | apply xn | apply xd | refine xt ?_ GE928.out) | exact HB.out)⟩

end Go.Proofs.Ytfbomhedhfkcpaa.G
