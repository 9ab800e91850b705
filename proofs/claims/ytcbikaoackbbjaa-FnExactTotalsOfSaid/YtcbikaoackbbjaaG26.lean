/- Written by a program of this claim's own, out of the translation: functions of the program as plain functions, and that the calls answer as these. No conditions. -/
import Derived.Test.YtcbikaoackbbjaaG0
import Derived.Test.YtcbikaoackbbjaaG5
namespace Go.Proofs.Ytcbikaoackbbjaa.G
open Go.RowKit Go.Proofs.Ytcbikaoackbbjaa.X Go.Proofs.YtcbikaoackbbjaaW.PrintWords Go.Proofs.YtcbikaoackbbjaaW.PrintLast Go.Proofs.YtcbikaoackbbjaaW.PrintMore
attribute [local go_sem] max2_int min2_int max_two min_two max_three min_three max_four min_four   -- for this text's walks alone
set_option linter.unusedVariables false
set_option linter.unusedSimpArgs false

/-! ### impl_isRowOf: function 98 -/
def impl_isRowOf.f (l0_0 : List Int) (a1 : Int) : Option (Bool) := (impl_GoodRow.f l0_0).bind fun t359 => (if t359 = true then (some ((l0_0.length : Int) == a1)) else (some false))
set_option maxHeartbeats 8000000 in
set_option maxRecDepth 100000 in
theorem impl_isRowOf.calls (A0_0 : Option Addr) (c0_0 : Nat) (l0_0 : List Int) (a1 : Int) (r : Bool) (w : World) (hr0_0 : Kd.C (Kd.int .i64) w A0_0 l0_0.length l0_0) (hc0_0 : l0_0.length ≤ c0_0) (h : impl_isRowOf.f l0_0 a1 = some r) :
  Calls Try.prog 98 #[.agg #[.slice A0_0 l0_0.length c0_0], .int .i64 a1] w fun e w' => e = .returned (.bool r) ∧ Below w.heap.size w w' := by
 have hu26 := Try.underlying26
 have HR0_0 := xm hr0_0
 have HC0_0 := xm hc0_0
 clear hr0_0 hc0_0
 have HB := xm (Below.refl w.heap.size w)
 have H : ((impl_GoodRow.f l0_0).bind fun t359 => (if t359 = true then (some ((l0_0.length : Int) == a1)) else (some false))) = some r := h
 clear h
 replace H := Option.bind_eq_some_iff.mp H
 obtain ⟨t359, A30, H⟩ := H
 replace H : (if t359 = true then (some ((l0_0.length : Int) == a1)) else (some false)) = some r := H
 have A3 := xm A30
 clear A30
 by_cases c4 : t359 = true
 ·subst c4
  have H1 : (some ((l0_0.length : Int) == a1)) = some r := by first | (with_reducible rfl) | (rw [if_pos rfl] at H; exact H)
  clear H
  have H := H1
  clear H1
  obtain rfl := Option.some.inj H
  go_enter Try.func98, Try.ntmps98
  go_wp2_with (first | ((with_reducible refine gate_dst (N := 2) rfl ?_); (try (refine gate_guard (by rfl) ?_; dsimp only)); refine box_event ?hg (N := 2) ?hd (cs := #[.slice A0_0 l0_0.length c0_0]) (t := 26) ?hr ?_; (case hd => rfl); (case hg => rfl); (case hr => first | (go_simp; done) | (go_simp; rfl)); intro gb358 hg w5 hbox hb; have n0_ := xm (below_step (by repeat (first | (with_reducible first | exact HB.out | apply xa | apply xn | apply xd) | exact HB.out)) hb); have n1_ := xm (hbox); have n2_ := xm ((by rw [hg]; exact (xz (by repeat (first | (with_reducible first | exact HB.out | apply xa | apply xn | apply xd) | exact HB.out))) : w.heap.size ≤ gb358)); have n3_ := xm ((by rw [hg]; exact (xz (by repeat (first | (with_reducible first | exact HB.out | apply xa | apply xn | apply xd) | exact HB.out))) : w.heap.size ≤ gb358)); clear HB; have HB := n0_; have BK358 := n1_; have GW358 := n2_; have GE358 := n3_; clear n0_ n1_ n2_ n3_; clear hb hbox hg; have hcz6_0 : w5.cell? ⟨gb358, 0, none⟩ = some (.slice A0_0 l0_0.length c0_0) := (xc BK358.out 0).trans rfl; have hfz6_0 := xf BK358.out 0) | ((with_reducible refine gate_callee (f := 47) rfl ?_); refine goesL_ (some 6) rfl rfl Try.func47 (by kernel_rfl) rfl #[.agg #[.slice A0_0 l0_0.length c0_0]] rfl (by (try simp only [List.map_toArray, List.map_cons, List.map_nil]); first | done | rfl | (simp only [List.length_drop, List.length_take]; rfl)) ?_; (with_reducible refine (impl_GoodRow.calls _ _ l0_0 true _ ?side1 ?side2 A3.out).mono ?_); (case side1 => repeat (first | exact (Kd.C_below HR0_0.out HB.out) | (with_reducible refine Kd.C_alloc ?_ _) | (with_reducible refine Kd.C_drewN ?_ _) | (with_reducible refine Kd.C_drew ?_))); (case side2 => exact HC0_0.out); rintro e w7 ⟨rfl, hb⟩; refine ⟨_, rfl, ?_⟩; have n0_ := xm (blk_below (g := gb358) (o := .cells #[.slice A0_0 l0_0.length c0_0] 26 (0, 0)) (by (with_reducible repeat (first | refine xq ?_ _ | refine xr ?_ | refine xo ?_ _)); exact BK358.out) hb); have n1_ := xm (below_step (by repeat (first | (with_reducible first | exact HB.out | apply xa | apply xn | apply xd | refine xt ?_ GE358.out) | exact HB.out)) hb); clear BK358; clear HB; have BK358 := n0_; have HB := n1_; clear n0_ n1_; (try clear hb); (try clear hb2); (try clear hk); (try clear hi); have hcz8_0 : w7.cell? ⟨gb358, 0, none⟩ = some (.slice A0_0 l0_0.length c0_0) := (xc BK358.out 0).trans rfl; have hfz8_0 := xf BK358.out 0))
  go_ret
  exact ⟨by first | rfl | (simp [errW_none, errW_some] <;> rfl) | (simp [*, errW_none, errW_some] <;> rfl), by repeat (first | (with_reducible first | exact HB.out | apply xa | apply xn | apply xd | refine xt ?_ GE358.out) | exact HB.out)⟩
 ·replace c4 := Bool.eq_false_iff.mpr c4
  subst c4
  have H1 : (some false) = some r := by first | (with_reducible rfl) | (rw [if_neg (show ¬ (false = true) by decide)] at H; exact H)
  clear H
  have H := H1
  clear H1
  obtain rfl := Option.some.inj H
  go_enter Try.func98, Try.ntmps98
  go_wp2_with (first | ((with_reducible refine gate_dst (N := 2) rfl ?_); (try (refine gate_guard (by rfl) ?_; dsimp only)); refine box_event ?hg (N := 2) ?hd (cs := #[.slice A0_0 l0_0.length c0_0]) (t := 26) ?hr ?_; (case hd => rfl); (case hg => rfl); (case hr => first | (go_simp; done) | (go_simp; rfl)); intro gb358 hg w9 hbox hb; have n0_ := xm (below_step (by repeat (first | (with_reducible first | exact HB.out | apply xa | apply xn | apply xd) | exact HB.out)) hb); have n1_ := xm (hbox); have n2_ := xm ((by rw [hg]; exact (xz (by repeat (first | (with_reducible first | exact HB.out | apply xa | apply xn | apply xd) | exact HB.out))) : w.heap.size ≤ gb358)); have n3_ := xm ((by rw [hg]; exact (xz (by repeat (first | (with_reducible first | exact HB.out | apply xa | apply xn | apply xd) | exact HB.out))) : w.heap.size ≤ gb358)); clear HB; have HB := n0_; have BK358 := n1_; have GW358 := n2_; have GE358 := n3_; clear n0_ n1_ n2_ n3_; clear hb hbox hg; have hcz10_0 : w9.cell? ⟨gb358, 0, none⟩ = some (.slice A0_0 l0_0.length c0_0) := (xc BK358.out 0).trans rfl; have hfz10_0 := xf BK358.out 0) | ((with_reducible refine gate_callee (f := 47) rfl ?_); refine goesL_ (some 6) rfl rfl Try.func47 (by kernel_rfl) rfl #[.agg #[.slice A0_0 l0_0.length c0_0]] rfl (by (try simp only [List.map_toArray, List.map_cons, List.map_nil]); first | done | rfl | (simp only [List.length_drop, List.length_take]; rfl)) ?_; (with_reducible refine (impl_GoodRow.calls _ _ l0_0 false _ ?side1 ?side2 A3.out).mono ?_); (case side1 => repeat (first | exact (Kd.C_below HR0_0.out HB.out) | (with_reducible refine Kd.C_alloc ?_ _) | (with_reducible refine Kd.C_drewN ?_ _) | (with_reducible refine Kd.C_drew ?_))); (case side2 => exact HC0_0.out); rintro e w11 ⟨rfl, hb⟩; refine ⟨_, rfl, ?_⟩; have n0_ := xm (blk_below (g := gb358) (o := .cells #[.slice A0_0 l0_0.length c0_0] 26 (0, 0)) (by (with_reducible repeat (first | refine xq ?_ _ | refine xr ?_ | refine xo ?_ _)); exact BK358.out) hb); have n1_ := xm (below_step (by repeat (first | (with_reducible first | exact HB.out | apply xa | apply xn | apply xd | refine xt ?_ GE358.out) | exact HB.out)) hb); clear BK358; clear HB; have BK358 := n0_; have HB := n1_; clear n0_ n1_; (try clear hb); (try clear hb2); (try clear hk); (try clear hi)))
  go_ret
  exact ⟨by first | rfl | (simp [errW_none, errW_some] <;> rfl) | (simp [*, errW_none, errW_some] <;> rfl), by repeat (first | (with_reducible first | exact HB.out | apply xa | apply xn | apply xd | refine xt ?_ GE358.out) | exact HB.out)⟩

end Go.Proofs.Ytcbikaoackbbjaa.G
