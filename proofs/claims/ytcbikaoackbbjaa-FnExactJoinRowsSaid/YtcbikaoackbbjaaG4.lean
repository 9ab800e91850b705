/- Written by a program of this claim's own, out of the translation: functions of the program as plain functions, and that the calls answer as these. No conditions. -/
import Derived.Test.YtcbikaoackbbjaaG0
import Derived.Test.YtcbikaoackbbjaaG1
import Derived.Test.YtcbikaoackbbjaaG2
import Derived.Test.YtcbikaoackbbjaaG3
namespace Go.Proofs.Ytcbikaoackbbjaa.G
open Go.RowKit Go.Proofs.Ytcbikaoackbbjaa.X Go.Proofs.YtcbikaoackbbjaaW.PrintWords Go.Proofs.YtcbikaoackbbjaaW.PrintLast Go.Proofs.YtcbikaoackbbjaaW.PrintMore
attribute [local go_sem] max2_int min2_int max_two min_two max_three min_three max_four min_four   -- for this text's walks alone
set_option linter.unusedVariables false
set_option linter.unusedSimpArgs false

/-! ### spec_JoinRows: function 53 -/
def spec_JoinRows.j0 : Nat → List (List Int) → Bool → List Int → List Int → Option (List Int × Bool)
 | 0, _, _, _, _ => none
 | k + 1, x2, x28, x158000, x159000 => if x28 = true then (some (([] : List Int), false)) else ((spec_l1Join.f k x158000 x159000 x2).bind fun bt163 => (if bt163.2 = true then (some (bt163.1, true)) else (some (([] : List Int), false))))
def spec_JoinRows.f (k : Nat) (l0_0 : List Int) (l1_0 : List Int) (l2 : List (List Int)) : Option (List Int × Bool) := (spec_GoodRow.f k l0_0).bind fun t160 => (if t160 = true then ((spec_GoodRow.f k l1_0).bind fun t161 => (if t161 = true then ((spec_l1Pairs.f k l2 (l0_0.length : Int) (l1_0.length : Int)).bind fun t162 => (spec_JoinRows.j0 k l2 (!t162) l0_0 l1_0)) else (spec_JoinRows.j0 k l2 true l0_0 l1_0))) else (spec_JoinRows.j0 k l2 true l0_0 l1_0))
theorem spec_JoinRows.mono_l : ∀ k, (∀ y0 y1 y2 y3, LeO (spec_JoinRows.j0 k y0 y1 y2 y3) (spec_JoinRows.j0 (k + 1) y0 y1 y2 y3))
 | 0 => fun _ _ _ _ r h => by simp [spec_JoinRows.j0] at h
 | k + 1 => by
  have ih0 := spec_JoinRows.mono_l k
  ·intro y0 y1 y2 y3
   unfold spec_JoinRows.j0
   repeat' first
   | (with_reducible exact ih0 _ _ _ _)
   | (with_reducible exact spec_GoodRow.mono _ _)
   | (with_reducible exact spec_l1Join.mono _ _ _ _)
   | (with_reducible exact spec_l1Pairs.mono _ _ _ _)
   | (with_reducible exact LeO.refl _)
   | (with_reducible exact LeO.none _)
   | (with_reducible refine LeO.ite ?_ ?_)
   | (with_reducible refine LeO.bind ?_ (fun _ => ?_))
   | exact ih0 _ _ _ _
   | exact spec_GoodRow.mono _ _
   | exact spec_l1Join.mono _ _ _ _
   | exact spec_l1Pairs.mono _ _ _ _
   | exact LeO.none _
   | refine LeO.ite ?_ ?_
   | refine LeO.bind ?_ (fun _ => ?_)
theorem spec_JoinRows.mono : ∀ a0 a1 a2 k, LeO (spec_JoinRows.f k a0 a1 a2) (spec_JoinRows.f (k + 1) a0 a1 a2) := by
 intro a0 a1 a2 k
 have ih0 := spec_JoinRows.mono_l k
 unfold spec_JoinRows.f
 repeat' first
   | (with_reducible exact ih0 _ _ _ _)
   | (with_reducible exact spec_GoodRow.mono _ _)
   | (with_reducible exact spec_l1Join.mono _ _ _ _)
   | (with_reducible exact spec_l1Pairs.mono _ _ _ _)
   | (with_reducible exact LeO.refl _)
   | (with_reducible exact LeO.none _)
   | (with_reducible refine LeO.ite ?_ ?_)
   | (with_reducible refine LeO.bind ?_ (fun _ => ?_))
   | exact ih0 _ _ _ _
   | exact spec_GoodRow.mono _ _
   | exact spec_l1Join.mono _ _ _ _
   | exact spec_l1Pairs.mono _ _ _ _
   | exact LeO.none _
   | refine LeO.ite ?_ ?_
   | refine LeO.bind ?_ (fun _ => ?_)
set_option maxHeartbeats 8000000 in
set_option maxRecDepth 100000 in
theorem spec_JoinRows.calls (k : Nat) (A0_0 : Option Addr) (c0_0 : Nat) (l0_0 : List Int) (A1_0 : Option Addr) (c1_0 : Nat) (l1_0 : List Int) (A2 : Option Addr) (c2 : Nat) (l2 : List (List Int)) (r1 : List Int) (r2 : Bool) (w : World) (hr0_0 : Kd.C (Kd.int .i64) w A0_0 l0_0.length l0_0) (hc0_0 : l0_0.length ≤ c0_0) (hr1_0 : Kd.C (Kd.int .i64) w A1_0 l1_0.length l1_0) (hc1_0 : l1_0.length ≤ c1_0) (hr2 : Kd.C (Kd.slice 3 (Kd.int .i64)) w A2 l2.length l2) (hc2 : l2.length ≤ c2) (h : spec_JoinRows.f k l0_0 l1_0 l2 = some (r1, r2)) :
  Calls Try.prog 53 #[.agg #[.slice A0_0 l0_0.length c0_0], .agg #[.slice A1_0 l1_0.length c1_0], .slice A2 l2.length c2] w fun e w' => ∃ v0_ : Value, e = .returned (.tuple #[.agg #[v0_], .bool r2]) ∧ Kd.R (Kd.int .i64) 3 w' w.heap.size (fun _ => True) v0_ r1 ∧ Below w.heap.size w w' := by
 have hu26 := Try.underlying26
 have HR0_0 := xm hr0_0
 have HC0_0 := xm hc0_0
 clear hr0_0 hc0_0
 have HR1_0 := xm hr1_0
 have HC1_0 := xm hc1_0
 clear hr1_0 hc1_0
 have HR2 := xm hr2
 have HC2 := xm hc2
 clear hr2 hc2
 have HB := xm (Below.refl w.heap.size w)
 have H : ((spec_GoodRow.f k l0_0).bind fun t160 => (if t160 = true then ((spec_GoodRow.f k l1_0).bind fun t161 => (if t161 = true then ((spec_l1Pairs.f k l2 (l0_0.length : Int) (l1_0.length : Int)).bind fun t162 => (spec_JoinRows.j0 k l2 (!t162) l0_0 l1_0)) else (spec_JoinRows.j0 k l2 true l0_0 l1_0))) else (spec_JoinRows.j0 k l2 true l0_0 l1_0))) = some (r1, r2) := h
 clear h
 have HC4 := xm H
 clear H
 go_enter Try.func53, Try.ntmps53
 go_upto_region 1 with (first | ((with_reducible refine gate_dst (N := 3) rfl ?_); (try (refine gate_guard (by rfl) ?_; dsimp only)); refine box_event ?hg (N := 3) ?hd (cs := #[.slice A0_0 l0_0.length c0_0]) (t := 26) ?hr ?_; (case hd => rfl); (case hg => rfl); (case hr => exact zB); intro gb157 hg w5 hbox hb; have n0_ := xm (below_step bB hb); have n1_ := xm (hbox); have n2_ := xm ((by rw [hg]; exact (xz bB) : w.heap.size ≤ gb157)); have n3_ := xm ((by rw [hg]; exact (xz bB) : w.heap.size ≤ gb157)); clear HB; have HB := n0_; have BK157 := n1_; have GW157 := n2_; have GE157 := n3_; clear n0_ n1_ n2_ n3_; clear hb hbox hg) | ((with_reducible refine gate_dst (N := 4) rfl ?_); (try (refine gate_guard (by rfl) ?_; dsimp only)); refine box_event ?hg (N := 4) ?hd (cs := #[.slice A1_0 l1_0.length c1_0]) (t := 26) ?hr ?_; (case hd => rfl); (case hg => rfl); (case hr => exact zB); intro gb158 hg w6 hbox hb; have n0_ := xm (blk_below (kB BK157) hb); have n1_ := xm (below_step bG hb); have n2_ := xm (hbox); have n3_ := xm ((by rw [hg]; exact (xz bG) : w.heap.size ≤ gb158)); have n4_ := xm ((by rw [hg]; exact (xz bG) : w.heap.size ≤ gb158)); have n5_ := xm ((by rw [hg]; exact Nat.ne_of_lt (blk_lt (kB BK157)) : gb157 ≠ gb158)); have n6_ := xm ((by rw [hg]; exact Nat.ne_of_gt (blk_lt (kB BK157)) : gb158 ≠ gb157)); clear BK157; clear HB; have BK157 := n0_; have HB := n1_; have BK158 := n2_; have GW158 := n3_; have GE158 := n4_; have NB157_158 := n5_; have NB158_157 := n6_; clear n0_ n1_ n2_ n3_ n4_ n5_ n6_; clear hb hbox hg) | ((with_reducible refine gate_dst (N := 6) rfl ?_); (try (refine gate_guard (by rfl) ?_; dsimp only)); refine box_event ?hg (N := 6) ?hd (cs := #[.slice none 0 0]) (t := 26) ?hr ?_; (case hd => rfl); (case hg => rfl); (case hr => exact zB); intro gb159 hg w7 hbox hb; have n0_ := xm (blk_below (kB BK157) hb); have n1_ := xm (blk_below (kB BK158) hb); have n2_ := xm (below_step bG hb); have n3_ := xm (hbox); have n4_ := xm ((by rw [hg]; exact (xz bG) : w.heap.size ≤ gb159)); have n5_ := xm ((by rw [hg]; exact (xz bG) : w.heap.size ≤ gb159)); have n6_ := xm ((by rw [hg]; exact Nat.ne_of_lt (blk_lt (kB BK157)) : gb157 ≠ gb159)); have n7_ := xm ((by rw [hg]; exact Nat.ne_of_gt (blk_lt (kB BK157)) : gb159 ≠ gb157)); have n8_ := xm ((by rw [hg]; exact Nat.ne_of_lt (blk_lt (kB BK158)) : gb158 ≠ gb159)); have n9_ := xm ((by rw [hg]; exact Nat.ne_of_gt (blk_lt (kB BK158)) : gb159 ≠ gb158)); clear BK157; clear BK158; clear HB; have BK157 := n0_; have BK158 := n1_; have HB := n2_; have BK159 := n3_; have GW159 := n4_; have GE159 := n5_; have NB157_159 := n6_; have NB159_157 := n7_; have NB158_159 := n8_; have NB159_158 := n9_; clear n0_ n1_ n2_ n3_ n4_ n5_ n6_ n7_ n8_ n9_; clear hb hbox hg))
 (try simp only [Act.put, xi, xj, xk])
 go_cut [28] (fun v28 wc => ∃ (kq : Nat) (x28_3 : Bool), v28 = .bool x28_3 ∧ Aside0 (spec_JoinRows.j0 kq l2 x28_3 l0_0 l1_0 = some (r1, r2)) ∧ Aside0 (kq ≤ k) ∧ Aside0 (wc.heap[gb157]? = some (.cells #[(.slice A0_0 l0_0.length c0_0)] 26 (0, 0))) ∧ Aside0 (wc.heap[gb158]? = some (.cells #[(.slice A1_0 l1_0.length c1_0)] 26 (0, 0))) ∧ Aside0 (wc.heap[gb159]? = some (.cells #[(.slice none 0 0)] 26 (0, 0))) ∧ Aside0 (Below w.heap.size w wc))
 case first =>
  have H := HC4.out
  clear HC4
  replace H := Option.bind_eq_some_iff.mp H
  obtain ⟨t160, A80, H⟩ := H
  replace H : (if t160 = true then ((spec_GoodRow.f k l1_0).bind fun t161 => (if t161 = true then ((spec_l1Pairs.f k l2 (l0_0.length : Int) (l1_0.length : Int)).bind fun t162 => (spec_JoinRows.j0 k l2 (!t162) l0_0 l1_0)) else (spec_JoinRows.j0 k l2 true l0_0 l1_0))) else (spec_JoinRows.j0 k l2 true l0_0 l1_0)) = some (r1, r2) := H
  have A8 := xm A80
  clear A80
  by_cases c9 : t160 = true
  ·subst c9
   have H1 : ((spec_GoodRow.f k l1_0).bind fun t161 => (if t161 = true then ((spec_l1Pairs.f k l2 (l0_0.length : Int) (l1_0.length : Int)).bind fun t162 => (spec_JoinRows.j0 k l2 (!t162) l0_0 l1_0)) else (spec_JoinRows.j0 k l2 true l0_0 l1_0))) = some (r1, r2) := by first | (with_reducible rfl) | (rw [if_pos rfl] at H; exact H)
   clear H
   have H := H1
   clear H1
   replace H := Option.bind_eq_some_iff.mp H
   obtain ⟨t161, A100, H⟩ := H
   replace H : (if t161 = true then ((spec_l1Pairs.f k l2 (l0_0.length : Int) (l1_0.length : Int)).bind fun t162 => (spec_JoinRows.j0 k l2 (!t162) l0_0 l1_0)) else (spec_JoinRows.j0 k l2 true l0_0 l1_0)) = some (r1, r2) := H
   have A10 := xm A100
   clear A100
   by_cases c11 : t161 = true
   ·subst c11
    have H1 : ((spec_l1Pairs.f k l2 (l0_0.length : Int) (l1_0.length : Int)).bind fun t162 => (spec_JoinRows.j0 k l2 (!t162) l0_0 l1_0)) = some (r1, r2) := by first | (with_reducible rfl) | (rw [if_pos rfl] at H; exact H)
    clear H
    have H := H1
    clear H1
    replace H := Option.bind_eq_some_iff.mp H
    obtain ⟨t162, A120, H⟩ := H
    replace H : (spec_JoinRows.j0 k l2 (!t162) l0_0 l1_0) = some (r1, r2) := H
    have A12 := xm A120
    clear A120
    have H' := xm H
    clear H
    have hnb13 := NB157_158.out
    have hnc13 := NB158_157.out
    have hnb14 := NB157_159.out
    have hnc14 := NB159_157.out
    obtain ⟨hcz15_0, hfz15_0⟩ := cz1 BK157.out
    go_wp2_with (first | ((with_reducible refine gate_callee (f := 82) rfl ?_); refine goesL_ (some 11) rfl rfl Try.func82 (by kernel_rfl) rfl #[.agg #[.slice A0_0 l0_0.length c0_0]] rfl mB ?_; (with_reducible refine (spec_GoodRow.calls k _ _ l0_0 true _ ?side1 ?side2 A8.out).mono ?_); (case side1 => exact cB (Kd.C_below HR0_0.out HB.out)); (case side2 => exact HC0_0.out); rintro e w16 ⟨rfl, hb⟩; refine ⟨_, rfl, ?_⟩; have n0_ := xm (blk_below (kB BK157) hb); have n1_ := xm (blk_below (kB BK158) hb); have n2_ := xm (blk_below (kB BK159) hb); have n3_ := xm (below_step bG hb); clear BK157; clear BK158; clear BK159; clear HB; have BK157 := n0_; have BK158 := n1_; have BK159 := n2_; have HB := n3_; clear n0_ n1_ n2_ n3_; (try clear hb); (try clear hb2); (try clear hk); (try clear hi); have hnb17 := NB158_159.out; have hnc17 := NB159_158.out; obtain ⟨hcz18_0, hfz18_0⟩ := cz1 BK158.out) | (go_at_call 82; (with_reducible refine (spec_GoodRow.calls k _ _ l1_0 true _ ?side1 ?side2 A10.out).mono ?_); (case side1 => exact cB (Kd.C_below HR1_0.out HB.out)); (case side2 => exact HC1_0.out); rintro e w19 ⟨rfl, hb⟩; have n0_ := xm (blk_below (kB BK157) hb); have n1_ := xm (blk_below (kB BK158) hb); have n2_ := xm (blk_below (kB BK159) hb); have n3_ := xm (below_step bG hb); clear BK157; clear BK158; clear BK159; clear HB; have BK157 := n0_; have BK158 := n1_; have BK159 := n2_; have HB := n3_; clear n0_ n1_ n2_ n3_; (try clear hb); (try clear hb2); (try clear hk); (try clear hi); obtain ⟨hcz20_0, hfz20_0⟩ := cz1 BK157.out; obtain ⟨hcz21_0, hfz21_0⟩ := cz1 BK158.out) | (go_at_call 116; (with_reducible refine (spec_l1Pairs.calls k _ _ l2 (l0_0.length : Int) (l1_0.length : Int) t162 _ ?side1 ?side2 A12.out).mono ?_); (case side1 => exact cB (Kd.C_below HR2.out HB.out)); (case side2 => exact HC2.out); rintro e w' ⟨rfl, ⟨nd, rfl⟩⟩))
    go_meet
    case rel => exact ⟨_, (!t162), (by first | rfl | (simp; done) | (simp [*]; done)), H', ⟨by first | omega | exact Nat.le_refl _⟩, ⟨by (with_reducible repeat (first | refine xq ?_ _ | refine xr ?_ | refine xo ?_ _)); exact BK157.out⟩, ⟨by (with_reducible repeat (first | refine xq ?_ _ | refine xr ?_ | refine xo ?_ _)); exact BK158.out⟩, ⟨by (with_reducible repeat (first | refine xq ?_ _ | refine xr ?_ | refine xo ?_ _)); exact BK159.out⟩, ⟨by repeat (first | (with_reducible first | exact HB.out | apply xa | apply xn | apply xd | refine xt ?_ GE157.out | refine xt ?_ GE158.out | refine xt ?_ GE159.out) | exact HB.out)⟩⟩
   ·replace c11 := Bool.eq_false_iff.mpr c11
    subst c11
    have H1 : (spec_JoinRows.j0 k l2 true l0_0 l1_0) = some (r1, r2) := by first | (with_reducible rfl) | (rw [if_neg (show ¬ (false = true) by decide)] at H; exact H)
    clear H
    have H := H1
    clear H1
    have H' := xm H
    clear H
    have hnb22 := NB157_158.out
    have hnc22 := NB158_157.out
    have hnb23 := NB157_159.out
    have hnc23 := NB159_157.out
    obtain ⟨hcz24_0, hfz24_0⟩ := cz1 BK157.out
    go_wp2_with (first | ((with_reducible refine gate_callee (f := 82) rfl ?_); refine goesL_ (some 11) rfl rfl Try.func82 (by kernel_rfl) rfl #[.agg #[.slice A0_0 l0_0.length c0_0]] rfl mB ?_; (with_reducible refine (spec_GoodRow.calls k _ _ l0_0 true _ ?side1 ?side2 A8.out).mono ?_); (case side1 => exact cB (Kd.C_below HR0_0.out HB.out)); (case side2 => exact HC0_0.out); rintro e w25 ⟨rfl, hb⟩; refine ⟨_, rfl, ?_⟩; have n0_ := xm (blk_below (kB BK157) hb); have n1_ := xm (blk_below (kB BK158) hb); have n2_ := xm (blk_below (kB BK159) hb); have n3_ := xm (below_step bG hb); clear BK157; clear BK158; clear BK159; clear HB; have BK157 := n0_; have BK158 := n1_; have BK159 := n2_; have HB := n3_; clear n0_ n1_ n2_ n3_; (try clear hb); (try clear hb2); (try clear hk); (try clear hi); have hnb26 := NB158_159.out; have hnc26 := NB159_158.out; obtain ⟨hcz27_0, hfz27_0⟩ := cz1 BK158.out) | (go_at_call 82; (with_reducible refine (spec_GoodRow.calls k _ _ l1_0 false _ ?side1 ?side2 A10.out).mono ?_); (case side1 => exact cB (Kd.C_below HR1_0.out HB.out)); (case side2 => exact HC1_0.out); rintro e w28 ⟨rfl, hb⟩; have n0_ := xm (blk_below (kB BK157) hb); have n1_ := xm (blk_below (kB BK158) hb); have n2_ := xm (blk_below (kB BK159) hb); have n3_ := xm (below_step bG hb); clear BK157; clear BK158; clear BK159; clear HB; have BK157 := n0_; have BK158 := n1_; have BK159 := n2_; have HB := n3_; clear n0_ n1_ n2_ n3_; (try clear hb); (try clear hb2); (try clear hk); (try clear hi)))
    go_meet
    case rel => exact ⟨_, (true), (by first | rfl | (simp; done) | (simp [*]; done)), H', ⟨by first | omega | exact Nat.le_refl _⟩, ⟨by (with_reducible repeat (first | refine xq ?_ _ | refine xr ?_ | refine xo ?_ _)); exact BK157.out⟩, ⟨by (with_reducible repeat (first | refine xq ?_ _ | refine xr ?_ | refine xo ?_ _)); exact BK158.out⟩, ⟨by (with_reducible repeat (first | refine xq ?_ _ | refine xr ?_ | refine xo ?_ _)); exact BK159.out⟩, ⟨by repeat (first | (with_reducible first | exact HB.out | apply xa | apply xn | apply xd | refine xt ?_ GE157.out | refine xt ?_ GE158.out | refine xt ?_ GE159.out) | exact HB.out)⟩⟩
  ·replace c9 := Bool.eq_false_iff.mpr c9
   subst c9
   have H1 : (spec_JoinRows.j0 k l2 true l0_0 l1_0) = some (r1, r2) := by first | (with_reducible rfl) | (rw [if_neg (show ¬ (false = true) by decide)] at H; exact H)
   clear H
   have H := H1
   clear H1
   have H' := xm H
   clear H
   have hnb29 := NB157_158.out
   have hnc29 := NB158_157.out
   have hnb30 := NB157_159.out
   have hnc30 := NB159_157.out
   obtain ⟨hcz31_0, hfz31_0⟩ := cz1 BK157.out
   go_wp2_with (first | ((with_reducible refine gate_callee (f := 82) rfl ?_); refine goesL_ (some 11) rfl rfl Try.func82 (by kernel_rfl) rfl #[.agg #[.slice A0_0 l0_0.length c0_0]] rfl mB ?_; (with_reducible refine (spec_GoodRow.calls k _ _ l0_0 false _ ?side1 ?side2 A8.out).mono ?_); (case side1 => exact cB (Kd.C_below HR0_0.out HB.out)); (case side2 => exact HC0_0.out); rintro e w32 ⟨rfl, hb⟩; refine ⟨_, rfl, ?_⟩; have n0_ := xm (blk_below (kB BK157) hb); have n1_ := xm (blk_below (kB BK158) hb); have n2_ := xm (blk_below (kB BK159) hb); have n3_ := xm (below_step bG hb); clear BK157; clear BK158; clear BK159; clear HB; have BK157 := n0_; have BK158 := n1_; have BK159 := n2_; have HB := n3_; clear n0_ n1_ n2_ n3_; (try clear hb); (try clear hb2); (try clear hk); (try clear hi)))
   go_meet
   case rel => exact ⟨_, (true), (by first | rfl | (simp; done) | (simp [*]; done)), H', ⟨by first | omega | exact Nat.le_refl _⟩, ⟨by (with_reducible repeat (first | refine xq ?_ _ | refine xr ?_ | refine xo ?_ _)); exact BK157.out⟩, ⟨by (with_reducible repeat (first | refine xq ?_ _ | refine xr ?_ | refine xo ?_ _)); exact BK158.out⟩, ⟨by (with_reducible repeat (first | refine xq ?_ _ | refine xr ?_ | refine xo ?_ _)); exact BK159.out⟩, ⟨by repeat (first | (with_reducible first | exact HB.out | apply xa | apply xn | apply xd | refine xt ?_ GE157.out | refine xt ?_ GE158.out | refine xt ?_ GE159.out) | exact HB.out)⟩⟩
 case rest =>
  clear HC4
  try clear c1
  try clear c2
  try clear p2
  try clear c3
  try clear c5
  try clear c8
  try clear c9
  try clear c11
  try clear c13
  try clear c14
  try clear c17
  try clear c22
  try clear c23
  try clear c26
  try clear c29
  try clear c30
  try clear hcz15_0
  try clear hcz18_0
  try clear hcz20_0
  try clear hcz21_0
  try clear hcz24_0
  try clear hcz27_0
  try clear hcz31_0
  try clear hfz15_0
  try clear hfz18_0
  try clear hfz20_0
  try clear hfz21_0
  try clear hfz24_0
  try clear hfz27_0
  try clear hfz31_0
  obtain ⟨kq, x28_3, rfl, HA, HJ3, BK157, BK158, BK159, HB⟩ := hcut
  cases kq with
  | zero => exact absurd HA.out (by simp [spec_JoinRows.j0])
  | succ kj3 =>
   have H := HA.out
   clear HA
   simp only [spec_JoinRows.j0] at H
   by_cases c33 : x28_3 = true
   ·subst c33
    have H1 : (some (([] : List Int), false)) = some (r1, r2) := by first | (with_reducible rfl) | (rw [if_pos rfl] at H; exact H)
    clear H
    have H := H1
    clear H1
    simp only [Option.some.injEq, Prod.mk.injEq] at H
    obtain ⟨rfl, rfl⟩ := H
    have hnb34 := NB159_157.out
    have hnc34 := NB157_159.out
    have hnb35 := NB159_158.out
    have hnc35 := NB158_159.out
    obtain ⟨hcz36_0, hfz36_0⟩ := cz1 BK159.out
    go_wp2
    refine bodyPost_ret (results_ct rfl _ _ gb159 26 #[.slice none 0 0] (0, 0) _ rfl (by (with_reducible repeat (first | refine xq ?_ _ | refine xr ?_ | refine xo ?_ _)); refine blk_put (cs := #[.slice none 0 0]) ?_ 0 _ rfl; (with_reducible repeat (first | refine xq ?_ _ | refine xr ?_ | refine xo ?_ _)); exact BK159.out) Try.underlying26 rfl (by kernel_rfl)) rfl ?_
    exact ⟨_, by first | rfl | (simp [errW_none, errW_some] <;> rfl) | (simp [*, errW_none, errW_some] <;> rfl), by first | exact Kd.R_nil _ _ _ _ _ | exact Kd.N_nil _ _ _ _ _ | exact Kd.V_nil _ _ _ _ _ | exact Kd.Q_nil _ _ _ _ _ | exact Kd.S_nil _ _ _ _ _, by repeat (first | (with_reducible first | exact HB.out | apply xa | apply xn | apply xd | refine xt ?_ GE157.out | refine xt ?_ GE158.out | refine xt ?_ GE159.out) | exact HB.out)⟩
   ·replace c33 := Bool.eq_false_iff.mpr c33
    subst c33
    have H1 : ((spec_l1Join.f kj3 l0_0 l1_0 l2).bind fun bt163 => (if bt163.2 = true then (some (bt163.1, true)) else (some (([] : List Int), false)))) = some (r1, r2) := by first | (with_reducible rfl) | (rw [if_neg (show ¬ (false = true) by decide)] at H; exact H)
    clear H
    have H := H1
    clear H1
    replace H := Option.bind_eq_some_iff.mp H
    obtain ⟨⟨t163, t166⟩, A370, H⟩ := H
    replace H : (if t166 = true then (some (t163, true)) else (some (([] : List Int), false))) = some (r1, r2) := H
    have A37 := xm A370
    clear A370
    by_cases c38 : t166 = true
    ·subst c38
     have H1 : (some (t163, true)) = some (r1, r2) := by first | (with_reducible rfl) | (rw [if_pos rfl] at H; exact H)
     clear H
     have H := H1
     clear H1
     simp only [Option.some.injEq, Prod.mk.injEq] at H
     obtain ⟨rfl, rfl⟩ := H
     have hnb39 := NB157_158.out
     have hnc39 := NB158_157.out
     have hnb40 := NB157_159.out
     have hnc40 := NB159_157.out
     obtain ⟨hcz41_0, hfz41_0⟩ := cz1 BK157.out
     have hnb42 := NB158_159.out
     have hnc42 := NB159_158.out
     obtain ⟨hcz43_0, hfz43_0⟩ := cz1 BK158.out
     go_wp2_with (first | ((with_reducible refine gate_callee (f := 117) rfl ?_); refine goesL_ (some 34) rfl rfl Try.func117 (by kernel_rfl) rfl #[.agg #[.slice A0_0 l0_0.length c0_0], .agg #[.slice A1_0 l1_0.length c1_0], .slice A2 l2.length c2] rfl mB ?_; (with_reducible refine (spec_l1Join.calls kj3 _ _ l0_0 _ _ l1_0 _ _ l2 t163 true _ ?side1 ?side2 ?side3 ?side4 ?side5 ?side6 A37.out).mono ?_); (case side1 => exact cB (Kd.C_below HR0_0.out HB.out)); (case side2 => exact HC0_0.out); (case side3 => exact cB (Kd.C_below HR1_0.out HB.out)); (case side4 => exact HC1_0.out); (case side5 => exact cB (Kd.C_below HR2.out HB.out)); (case side6 => exact HC2.out); rintro e w44 ⟨v164, rfl, ho0, hb⟩; refine ⟨_, rfl, ?_⟩; have n0_ := xm (Kd.R_lower ho0 (xz bG)); have n1_ := xm (blk_below (kB BK157) hb); have n2_ := xm (blk_below (kB BK158) hb); have n3_ := xm (blk_below (kB BK159) hb); have n4_ := xm (below_step bG hb); clear BK157; clear BK158; clear BK159; clear HB; have HO165 := n0_; have BK157 := n1_; have BK158 := n2_; have BK159 := n3_; have HB := n4_; clear n0_ n1_ n2_ n3_ n4_; (try clear hb); (try clear hb2); (try clear hk); (try clear hi); (try clear ho0)) | ((with_reducible refine gate_dst (N := 8) rfl ?_); (try (refine gate_guard (by rfl) ?_; dsimp only)); refine box_event ?hg (N := 8) ?hd (cs := #[.slice none 0 0]) (t := 26) ?hr ?_; (case hd => rfl); (case hg => rfl); (case hr => exact zB); intro gb167 hg w45 hbox hb; have n0_ := xm (Kd.R_below (rB HO165) hb); have n1_ := xm (blk_below (kB BK157) hb); have n2_ := xm (blk_below (kB BK158) hb); have n3_ := xm (blk_below (kB BK159) hb); have n4_ := xm (below_step bG hb); have n5_ := xm (hbox); have n6_ := xm ((by rw [hg]; exact (xz bG) : w.heap.size ≤ gb167)); have n7_ := xm ((by rw [hg]; exact (xz bG) : w.heap.size ≤ gb167)); have n8_ := xm ((by rw [hg]; exact Nat.ne_of_lt (blk_lt (kB BK157)) : gb157 ≠ gb167)); have n9_ := xm ((by rw [hg]; exact Nat.ne_of_gt (blk_lt (kB BK157)) : gb167 ≠ gb157)); have n10_ := xm ((by rw [hg]; exact Nat.ne_of_lt (blk_lt (kB BK158)) : gb158 ≠ gb167)); have n11_ := xm ((by rw [hg]; exact Nat.ne_of_gt (blk_lt (kB BK158)) : gb167 ≠ gb158)); have n12_ := xm ((by rw [hg]; exact Nat.ne_of_lt (blk_lt (kB BK159)) : gb159 ≠ gb167)); have n13_ := xm ((by rw [hg]; exact Nat.ne_of_gt (blk_lt (kB BK159)) : gb167 ≠ gb159)); clear HO165; clear BK157; clear BK158; clear BK159; clear HB; have HO165 := n0_; have BK157 := n1_; have BK158 := n2_; have BK159 := n3_; have HB := n4_; have BK167 := n5_; have GW167 := n6_; have GE167 := n7_; have NB157_167 := n8_; have NB167_157 := n9_; have NB158_167 := n10_; have NB167_158 := n11_; have NB159_167 := n12_; have NB167_159 := n13_; clear n0_ n1_ n2_ n3_ n4_ n5_ n6_ n7_ n8_ n9_ n10_ n11_ n12_ n13_; clear hb hbox hg; obtain ⟨Ao46, co46, eo46⟩ := Kd.R_slice HO165.out; subst eo46; have hnb47 := NB167_157.out; have hnc47 := NB157_167.out; have hnb48 := NB167_158.out; have hnc48 := NB158_167.out; have hnb49 := NB167_159.out; have hnc49 := NB159_167.out; obtain ⟨hcz50_0, hfz50_0⟩ := cz1 BK167.out; obtain ⟨hcz51_0, hfz51_0⟩ := cz1 BK159.out))
     refine bodyPost_ret (results_ct rfl _ _ gb159 26 #[.slice Ao46 t163.length co46] (0, 0) _ rfl (by (with_reducible repeat (first | refine xq ?_ _ | refine xr ?_ | refine xo ?_ _)); refine blk_put (cs := #[.slice none 0 0]) ?_ 0 _ rfl; (with_reducible repeat (first | refine xq ?_ _ | refine xr ?_ | refine xo ?_ _)); refine blk_far ?_ NB159_167.out _; (with_reducible repeat (first | refine xq ?_ _ | refine xr ?_ | refine xo ?_ _)); exact BK159.out) Try.underlying26 rfl (by kernel_rfl)) rfl ?_
     exact ⟨_, by first | rfl | (simp [errW_none, errW_some] <;> rfl) | (simp [*, errW_none, errW_some] <;> rfl), by (with_reducible repeat (first | apply Kd.R_alloc | apply Kd.R_drewN | apply Kd.R_drew)); exact Kd.R_mono (Kd.R_far (p := ⟨gb159, 0, none⟩) (Kd.R_far (p := ⟨gb167, 0, none⟩) (Kd.R_types (Kd.R_types HO165.out BK167.out (by decide)) BK159.out (by decide)) (fun _ hk => hk.1.2) (.slice Ao46 t163.length co46)) (fun _ hk => hk.2) (.slice Ao46 t163.length co46)) (fun _ hk => trivial), by repeat (first | (with_reducible first | exact HB.out | apply xa | apply xn | apply xd | refine xt ?_ GE157.out | refine xt ?_ GE158.out | refine xt ?_ GE159.out | refine xt ?_ GE167.out) | exact HB.out)⟩
    ·replace c38 := Bool.eq_false_iff.mpr c38
     subst c38
     have H1 : (some (([] : List Int), false)) = some (r1, r2) := by first | (with_reducible rfl) | (rw [if_neg (show ¬ (false = true) by decide)] at H; exact H)
     clear H
     have H := H1
     clear H1
     simp only [Option.some.injEq, Prod.mk.injEq] at H
     obtain ⟨rfl, rfl⟩ := H
     have hnb52 := NB157_158.out
     have hnc52 := NB158_157.out
     have hnb53 := NB157_159.out
     have hnc53 := NB159_157.out
     obtain ⟨hcz54_0, hfz54_0⟩ := cz1 BK157.out
     have hnb55 := NB158_159.out
     have hnc55 := NB159_158.out
     obtain ⟨hcz56_0, hfz56_0⟩ := cz1 BK158.out
     go_wp2_with (first | ((with_reducible refine gate_callee (f := 117) rfl ?_); refine goesL_ (some 34) rfl rfl Try.func117 (by kernel_rfl) rfl #[.agg #[.slice A0_0 l0_0.length c0_0], .agg #[.slice A1_0 l1_0.length c1_0], .slice A2 l2.length c2] rfl mB ?_; (with_reducible refine (spec_l1Join.calls kj3 _ _ l0_0 _ _ l1_0 _ _ l2 t163 false _ ?side1 ?side2 ?side3 ?side4 ?side5 ?side6 A37.out).mono ?_); (case side1 => exact cB (Kd.C_below HR0_0.out HB.out)); (case side2 => exact HC0_0.out); (case side3 => exact cB (Kd.C_below HR1_0.out HB.out)); (case side4 => exact HC1_0.out); (case side5 => exact cB (Kd.C_below HR2.out HB.out)); (case side6 => exact HC2.out); rintro e w57 ⟨v164, rfl, ho0, hb⟩; refine ⟨_, rfl, ?_⟩; have n0_ := xm (Kd.R_lower ho0 (xz bG)); have n1_ := xm (blk_below (kB BK157) hb); have n2_ := xm (blk_below (kB BK158) hb); have n3_ := xm (blk_below (kB BK159) hb); have n4_ := xm (below_step bG hb); clear BK157; clear BK158; clear BK159; clear HB; have HO165 := n0_; have BK157 := n1_; have BK158 := n2_; have BK159 := n3_; have HB := n4_; clear n0_ n1_ n2_ n3_ n4_; (try clear hb); (try clear hb2); (try clear hk); (try clear hi); (try clear ho0)) | ((with_reducible refine gate_dst (N := 8) rfl ?_); (try (refine gate_guard (by rfl) ?_; dsimp only)); refine box_event ?hg (N := 8) ?hd (cs := #[.slice none 0 0]) (t := 26) ?hr ?_; (case hd => rfl); (case hg => rfl); (case hr => exact zB); intro gb167 hg w58 hbox hb; have n0_ := xm (Kd.R_below (rB HO165) hb); have n1_ := xm (blk_below (kB BK157) hb); have n2_ := xm (blk_below (kB BK158) hb); have n3_ := xm (blk_below (kB BK159) hb); have n4_ := xm (below_step bG hb); have n5_ := xm (hbox); have n6_ := xm ((by rw [hg]; exact (xz bG) : w.heap.size ≤ gb167)); have n7_ := xm ((by rw [hg]; exact (xz bG) : w.heap.size ≤ gb167)); have n8_ := xm ((by rw [hg]; exact Nat.ne_of_lt (blk_lt (kB BK157)) : gb157 ≠ gb167)); have n9_ := xm ((by rw [hg]; exact Nat.ne_of_gt (blk_lt (kB BK157)) : gb167 ≠ gb157)); have n10_ := xm ((by rw [hg]; exact Nat.ne_of_lt (blk_lt (kB BK158)) : gb158 ≠ gb167)); have n11_ := xm ((by rw [hg]; exact Nat.ne_of_gt (blk_lt (kB BK158)) : gb167 ≠ gb158)); have n12_ := xm ((by rw [hg]; exact Nat.ne_of_lt (blk_lt (kB BK159)) : gb159 ≠ gb167)); have n13_ := xm ((by rw [hg]; exact Nat.ne_of_gt (blk_lt (kB BK159)) : gb167 ≠ gb159)); clear HO165; clear BK157; clear BK158; clear BK159; clear HB; have HO165 := n0_; have BK157 := n1_; have BK158 := n2_; have BK159 := n3_; have HB := n4_; have BK167 := n5_; have GW167 := n6_; have GE167 := n7_; have NB157_167 := n8_; have NB167_157 := n9_; have NB158_167 := n10_; have NB167_158 := n11_; have NB159_167 := n12_; have NB167_159 := n13_; clear n0_ n1_ n2_ n3_ n4_ n5_ n6_ n7_ n8_ n9_ n10_ n11_ n12_ n13_; clear hb hbox hg; obtain ⟨Ao59, co59, eo59⟩ := Kd.R_slice HO165.out; subst eo59; have hnb60 := NB167_157.out; have hnc60 := NB157_167.out; have hnb61 := NB167_158.out; have hnc61 := NB158_167.out; have hnb62 := NB167_159.out; have hnc62 := NB159_167.out; obtain ⟨hcz63_0, hfz63_0⟩ := cz1 BK167.out; obtain ⟨hcz64_0, hfz64_0⟩ := cz1 BK159.out))
     refine bodyPost_ret (results_ct rfl _ _ gb159 26 #[.slice none 0 0] (0, 0) _ rfl (by (with_reducible repeat (first | refine xq ?_ _ | refine xr ?_ | refine xo ?_ _)); refine blk_put (cs := #[.slice none 0 0]) ?_ 0 _ rfl; (with_reducible repeat (first | refine xq ?_ _ | refine xr ?_ | refine xo ?_ _)); refine blk_far ?_ NB159_167.out _; (with_reducible repeat (first | refine xq ?_ _ | refine xr ?_ | refine xo ?_ _)); exact BK159.out) Try.underlying26 rfl (by kernel_rfl)) rfl ?_
     exact ⟨_, by first | rfl | (simp [errW_none, errW_some] <;> rfl) | (simp [*, errW_none, errW_some] <;> rfl), by first | exact Kd.R_nil _ _ _ _ _ | exact Kd.N_nil _ _ _ _ _ | exact Kd.V_nil _ _ _ _ _ | exact Kd.Q_nil _ _ _ _ _ | exact Kd.S_nil _ _ _ _ _, by repeat (first | (with_reducible first | exact HB.out | apply xa | apply xn | apply xd | refine xt ?_ GE157.out | refine xt ?_ GE158.out | refine xt ?_ GE159.out | refine xt ?_ GE167.out) | exact HB.out)⟩

/-! ### laws_toIntSS: function 54 -/
def laws_toIntSS.l0 : Nat → List (List Int) → List (List Int) → Int → Option ((List (List Int)))
 | 0, _, _, _ => none
 | k + 1, x0, x3, x4 => if x4 < (x0.length : Int) then (if 0 ≤ x4 then ((laws_toIntS.f k (rd_L1 x0 x4)).bind fun t172 => (if x4 < (x3.length : Int) then (laws_toIntSS.l0 k x0 (x3.set (x4 : Int).toNat t172) (wrap64 (x4 + 1))) else (none))) else (none)) else (some x3)
def laws_toIntSS.f (k : Nat) (l0 : List (List Int)) : Option ((List (List Int))) := if 0 ≤ (l0.length : Int) then (if ((l0.length : Int) : Int).toNat ≤ 11728124029610 then (laws_toIntSS.l0 k l0 (List.replicate ((l0.length : Int) : Int).toNat []) 0) else (none)) else (none)
theorem laws_toIntSS.mono_l : ∀ k, (∀ y0 y1 y2, LeO (laws_toIntSS.l0 k y0 y1 y2) (laws_toIntSS.l0 (k + 1) y0 y1 y2))
 | 0 => fun _ _ _ r h => by simp [laws_toIntSS.l0] at h
 | k + 1 => by
  have ih0 := laws_toIntSS.mono_l k
  ·intro y0 y1 y2
   unfold laws_toIntSS.l0
   repeat' first
   | (with_reducible exact ih0 _ _ _)
   | (with_reducible exact laws_toIntS.mono _ _)
   | (with_reducible exact LeO.refl _)
   | (with_reducible exact LeO.none _)
   | (with_reducible refine LeO.ite ?_ ?_)
   | (with_reducible refine LeO.bind ?_ (fun _ => ?_))
   | exact ih0 _ _ _
   | exact laws_toIntS.mono _ _
   | exact LeO.none _
   | refine LeO.ite ?_ ?_
   | refine LeO.bind ?_ (fun _ => ?_)
theorem laws_toIntSS.mono : ∀ a0 k, LeO (laws_toIntSS.f k a0) (laws_toIntSS.f (k + 1) a0) := by
 intro a0 k
 have ih0 := laws_toIntSS.mono_l k
 unfold laws_toIntSS.f
 repeat' first
   | (with_reducible exact ih0 _ _ _)
   | (with_reducible exact laws_toIntS.mono _ _)
   | (with_reducible exact LeO.refl _)
   | (with_reducible exact LeO.none _)
   | (with_reducible refine LeO.ite ?_ ?_)
   | (with_reducible refine LeO.bind ?_ (fun _ => ?_))
   | exact ih0 _ _ _
   | exact laws_toIntS.mono _ _
   | exact LeO.none _
   | refine LeO.ite ?_ ?_
   | refine LeO.bind ?_ (fun _ => ?_)
set_option maxHeartbeats 8000000 in
set_option maxRecDepth 100000 in
theorem laws_toIntSS.calls (k : Nat) (A0 : Option Addr) (c0 : Nat) (l0 : List (List Int)) (r : List (List Int)) (w : World) (hr0 : Kd.C (Kd.slice 3 (Kd.int .i64)) w A0 l0.length l0) (hc0 : l0.length ≤ c0) (h : laws_toIntSS.f k l0 = some r) :
  Calls Try.prog 54 #[.slice A0 l0.length c0] w fun e w' => ∃ v0_ : Value, e = .returned (v0_) ∧ Kd.S (Kd.slice 3 (Kd.int .i64)) 22 w' w.heap.size (fun _ => True) v0_ r ∧ Below w.heap.size w w' := by
 have HR0 := xm hr0
 have HC0 := xm hc0
 clear hr0 hc0
 have HB := xm (Below.refl w.heap.size w)
 have H : (if 0 ≤ (l0.length : Int) then (if ((l0.length : Int) : Int).toNat ≤ 11728124029610 then (laws_toIntSS.l0 k l0 (List.replicate ((l0.length : Int) : Int).toNat []) 0) else (none)) else (none)) = some r := h
 clear h
 by_cases c2 : 0 ≤ (l0.length : Int)
 ·rw [if_pos c2] at H
  have c2b0 := eq_true c2
  have c2b1 : decide (0 ≤ (l0.length : Int)) = true := decide_eq_true c2
  clear c2
  by_cases c3 : ((l0.length : Int) : Int).toNat ≤ 11728124029610
  ·rw [if_pos c3] at H
   have c3b0 := eq_true c3
   have c3b1 : decide (((l0.length : Int) : Int).toNat ≤ 11728124029610) = true := decide_eq_true c3
   clear c3
   obtain ⟨y168, hy168⟩ : ∃ y_ : List (List Int), y_ = (List.replicate ((l0.length : Int) : Int).toNat []) := ⟨_, rfl⟩
   replace H : (laws_toIntSS.l0 k l0 y168 0) = some r := by first | (rw [hy168]; with_reducible exact H) | (have H2_ := (Option.bind_some _ _).symm.trans H; rw [hy168]; with_reducible exact H2_) | (have H2_ := (Option.bind_some _ _).symm.trans H; with_reducible exact H2_) | with_reducible exact H | (rw [hy168]; exact H) | exact H
   have Ny168 := xm hy168
   clear hy168
   have H' := xm H
   clear H
   go_enter Try.func54, Try.ntmps54
   go_wp2_with (first | ((with_reducible refine gate_dst (N := 7) rfl ?_); refine Kd.S_make (Kd.slice 3 (Kd.int .i64)) _ 22 rfl (N := 7) rfl 70 _ _ rfl (l0.length : Int) rfl rfl Try.underlying70 (.slice none 0 0) 24 info22 rfl (by decide) (by omega) [] (ok := fun _ => True) (okp := fun _ => True) ⟨_, rfl, Kd.R_nil _ _ _ _ _⟩ (fun _ hk => hk) trivial (of_decide_eq_true aB) (Nat.le_trans (Nat.mul_le_mul_right _ (of_decide_eq_true aB : (l0.length : Int).toNat ≤ 11728124029610)) (by omega)) (Below.refl _ _) (Nat.le_refl _) ?_; intro v169 w4 ho5 hb hg_ hnew_; clear hg_ hnew_; (first | rw [← Ny168.out] at ho5 | (simp only [Int.reduceToNat] at ho5; rw [← Ny168.out] at ho5)); have n0_ := xm (Kd.S_lower ho5 (xz bB)); have n1_ := xm (below_step bB hb); clear HB; have HO170 := n0_; have HB := n1_; clear n0_ n1_; clear hb ho5))
   go_loopg [4] k (fun kq v4 w' => ∃ (x3_1 : List (List Int)) (x4_1 : Int), v4 = .int .i64 x4_1 ∧ Aside0 (laws_toIntSS.l0 kq l0 x3_1 x4_1 = some r) ∧ Aside0 (kq ≤ k) ∧ Aside0 (Kd.S (Kd.slice 3 (Kd.int .i64)) 22 w' w.heap.size (fun _ => True) v169 x3_1) ∧ Aside0 (Below w.heap.size w w'))
   case atStart => exact ⟨(y168), (0), (by first | rfl | (simp; done) | (simp [*]; done)), H', ⟨Nat.le_refl _⟩, ⟨by (with_reducible repeat (first | apply Kd.S_alloc | apply Kd.S_drewN | apply Kd.S_drew)); exact HO170.out⟩, ⟨by repeat (first | (with_reducible first | exact HB.out | apply xa | apply xn | apply xd) | exact HB.out)⟩⟩
   case round =>
    clear H'
    try clear c2
    try clear c2b0
    try clear c2b1
    try clear p2
    try clear c3
    try clear c3b0
    try clear c3b1
    try clear c5
    obtain ⟨x3_1, x4_1, rfl, HA, HK1, HO_3, HB⟩ := hrel
    cases gk with
    | zero => exact absurd HA.out (by simp [laws_toIntSS.l0])
    | succ k1 =>
     have H := HA.out
     clear HA
     simp only [laws_toIntSS.l0] at H
     by_cases c6 : x4_1 < (l0.length : Int)
     ·rw [if_pos c6] at H
      have c6b0 : decide (x4_1 < (l0.length : Int)) = true := decide_eq_true c6
      clear c6
      by_cases c7 : 0 ≤ x4_1
      ·rw [if_pos c7] at H
       have c7b0 : decide (0 ≤ x4_1) = true := decide_eq_true c7
       clear c7
       replace H := Option.bind_eq_some_iff.mp H
       obtain ⟨t172, A80, H⟩ := H
       replace H : (if x4_1 < (x3_1.length : Int) then (laws_toIntSS.l0 k1 l0 (x3_1.set (x4_1 : Int).toNat t172) (wrap64 (x4_1 + 1))) else (none)) = some r := H
       have A8 := xm A80
       clear A80
       by_cases c9 : x4_1 < (x3_1.length : Int)
       ·rw [if_pos c9] at H
        have c9b0 : decide (x4_1 < (x3_1.length : Int)) = true := decide_eq_true c9
        clear c9
        obtain ⟨y175, hy175⟩ : ∃ y_ : List (List Int), y_ = (x3_1.set (x4_1 : Int).toNat t172) := ⟨_, rfl⟩
        replace H : (laws_toIntSS.l0 k1 l0 y175 (wrap64 (x4_1 + 1))) = some r := by first | (rw [hy175]; with_reducible exact H) | (have H2_ := (Option.bind_some _ _).symm.trans H; rw [hy175]; with_reducible exact H2_) | (have H2_ := (Option.bind_some _ _).symm.trans H; with_reducible exact H2_) | with_reducible exact H | (rw [hy175]; exact H) | exact H
        have Ny175 := xm hy175
        clear hy175
        have H' := xm H
        clear H
        have p171 : 0 ≤ (x4_1 : Int) := of_decide_eq_true aB
        have q171 : x4_1 < (l0.length : Int) := of_decide_eq_true aB
        obtain ⟨ad171, A171_0, c171_0, e171, hx171_0, hl171_0, hi171_0⟩ := at_L1 HR0.out x4_1 p171 q171
        cases e171
        replace hx171_0 := (HB.out.cell (World.block_lt_of_cell? w _ hx171_0)).trans hx171_0
        have HR171_0 := xm hi171_0
        have HC171_0 := xm hl171_0
        clear hi171_0 hl171_0
        replace p171 := eq_true p171
        replace q171 := eq_true q171
        go_wp2_with (first | ((with_reducible refine gate_callee (f := 21) rfl ?_); refine goesL_ (some 20) rfl rfl Try.func21 (by kernel_rfl) rfl #[.slice A171_0 (rd_L1 l0 x4_1).length c171_0] rfl mB ?_; (with_reducible refine (laws_toIntS.calls k1 _ _ (rd_L1 l0 x4_1) t172 _ ?side1 ?side2 A8.out).mono ?_); (case side1 => exact cB (Kd.C_below HR171_0.out HB.out)); (case side2 => exact HC171_0.out); rintro e w11 ⟨v173, rfl, ho0, hb⟩; refine ⟨_, rfl, ?_⟩; have n0_ := xm (Kd.S_elder' (by (with_reducible repeat (first | apply Kd.S_alloc | apply Kd.S_drewN | apply Kd.S_drew)); exact HO_3.out) (Kd.R_base ho0) hb); have n1_ := xm (Kd.R_lower ho0 (xz bB)); have n2_ := xm (below_step bB hb); clear HO_3; clear HB; have HO_3 := n0_; have HO174 := n1_; have HB := n2_; clear n0_ n1_ n2_; (try clear hb); (try clear hb2); (try clear hk); (try clear hi); (try clear ho0); have p10 : 0 ≤ (x4_1 : Int) := of_decide_eq_true aB; have q10 : (x4_1 : Int) < ((x3_1.length : Int) : Int) := of_decide_eq_true aB; obtain ⟨go10, co10, eo10, gb10, gl10, cl10, HG10⟩ := Kd.S_form HO_3.out (by omega); (first | cases eo10 | (injection eo10 with ea_ en_ ec_; (first | subst ea_ | (injection ea_ with ea_; subst ea_)); subst ec_; clear en_)); have GB10 := xm gb10; have GG10 := xm HG10; clear gb10 gl10 HG10; obtain ⟨_, ce10, hcl10, hM10, hcc10, hfr10, _, _⟩ := Kd.S_elem HO_3.out [] (x4_1 : Int) p10 q10; obtain ⟨ve10_0, rfl, ge10_0⟩ := hM10; have hx10_0 := hcc10 0 _ rfl; have hf10_0 := hfr10 0; (try simp only [show ((Kd.slice 3 (Kd.int .i64))).sz = 1 from rfl, Nat.mul_one, Nat.add_zero] at hx10_0); (try simp only [show ((Kd.slice 3 (Kd.int .i64))).sz = 1 from rfl, Nat.mul_one, Nat.add_zero] at hf10_0); (try clear hM10); clear hcl10 hcc10 hfr10; replace p10 := eq_true p10; replace q10 := eq_true q10; obtain ⟨Ao14, co14, eo14⟩ := Kd.R_slice HO174.out; subst eo14; have n_ := xm (Kd.S_mono (ok' := (fun k_ => some k_ ≠ (.slice Ao14 t172.length co14 : Value).ownBlock)) HO_3.out (fun k_ hk => hk.2)); clear HO_3; have HO_3 := n_; clear n_; have HX12 := xm (show Kd.S (Kd.slice 3 (Kd.int .i64)) 22 w11 w.heap.size (fun k_ => ((fun _ => True)) k_ ∧ ¬ ((fun k_ => some k_ = (.slice Ao14 t172.length co14 : Value).ownBlock)) k_) (.slice (some ⟨go10, 0, none⟩) x3_1.length co10) x3_1 from (by (with_reducible repeat (first | apply Kd.S_alloc | apply Kd.S_drewN | apply Kd.S_drew)); exact Kd.S_mono HO_3.out (fun k_ hk => ⟨trivial, fun e_ => hk e_⟩))); obtain ⟨oki12, ce12, hcl12, hM12, hcc12, hfr12, hoki12, hH12⟩ := Kd.S_elem HX12.out [] (x4_1 : Int) (of_decide_eq_true aB) (by have h_ : (x4_1 : Int) < ((x3_1.length : Int) : Int) := of_decide_eq_true aB; first | exact h_ | (have e_ := (Kd.S_reads' HO_3.out).1; omega) | simpa using h_); obtain ⟨ve12_0, rfl, ge12_0⟩ := hM12; have HP12 := Kd.S_seg hH12 (of_decide_eq_true aB) (by have h_ : (x4_1 : Int) < ((x3_1.length : Int) : Int) := of_decide_eq_true aB; first | exact h_ | (have e_ := (Kd.S_reads' HO_3.out).1; omega) | simpa using h_) (seg := [.slice Ao14 t172.length co14]) (j := 0) (show 1 ≤ 1 from by decide) (x' := t172) (Kd.M_row (Kd.R_mono (Kd.R_tight rfl (Kd.R_mono (ok' := fun k_ => ((fun _ => True)) k_ ∧ k_ ≠ go10) (Kd.R_apart' (HO174.out) (Kd.S_typed HO_3.out) (by decide)) (fun k_ hk => ⟨trivial, fun e_ => (hk.2) (by rw [e_]; rfl)⟩))) (fun _ h_ => Or.inr (h_)))) (fun _ hk => hk) (fun k_ hk_ => ((Kd.R_mono (ok' := fun k_ => ((fun _ => True)) k_ ∧ k_ ≠ go10) (Kd.R_apart' (HO174.out) (Kd.S_typed HO_3.out) (by decide)) (fun k_ hk => ⟨trivial, fun e_ => (hk.2) (by rw [e_]; rfl)⟩))).1 k_ hk_.symm); have hx12_0 := hcc12 0 _ rfl; (try simp only [show ((Kd.slice 3 (Kd.int .i64))).sz = 1 from rfl, Nat.mul_one, Nat.add_zero] at hx12_0); have hf12_0 := hfr12 0; (try simp only [show ((Kd.slice 3 (Kd.int .i64))).sz = 1 from rfl, Nat.mul_one, Nat.add_zero] at hf12_0); (try clear hM12); clear hcl12 hcc12 hfr12 hoki12 hH12; (try simp only [show ((Kd.slice 3 (Kd.int .i64))).sz = 1 from rfl, Nat.mul_one, Nat.add_zero] at HP12)) | ((with_reducible refine gate_store (t := 22) (p := 21) rfl ?_); refine store_event (t := 22) (p := 21) (v := ?vo_w13) (w1 := (w11.setCell ⟨go10, (x4_1 : Int).toNat, none⟩ (.slice Ao14 t172.length co14))) ?hg ?ho ?hn ?hr ?_; (case ho => rfl); (case hg => rfl); (case hn => rfl); (case hr => exact zB); intro w13 hw; have hg : w11.grownBy w13 (some go10) := (by rw [hw]; exact HP12.2); have hp_ : Kd.S (Kd.slice 3 (Kd.int .i64)) 22 w13 w.heap.size (fun _ => True) (.slice (some ⟨go10, 0, none⟩) x3_1.length co10) y175 := (by rw [hw, Ny175.out]; exact HP12.1); clear HP12; have n0_ := xm (hp_); have n1_ := xm ((by rw [hw]; exact xt (HB.out) GB10.out : Below w.heap.size w w13)); clear HO_3; clear HB; clear HO174; have HO_3 := n0_; have HB := n1_; clear n0_ n1_; clear hg hw hp_))
        go_roundg k1
        case measure => have := HK1.out; omega
        case rel => exact ⟨(y175), (wrap64 (x4_1 + 1)), (by first | rfl | (simp; done) | (simp [*]; done)), H', ⟨by have := HK1.out; omega⟩, ⟨by (with_reducible repeat (first | apply Kd.S_alloc | apply Kd.S_drewN | apply Kd.S_drew)); exact HO_3.out⟩, ⟨by repeat (first | (with_reducible first | exact HB.out | apply xa | apply xn | apply xd) | exact HB.out)⟩⟩
       ·rw [if_neg c9] at H
        exact absurd H (by simp)
      ·rw [if_neg c7] at H
       exact absurd H (by simp)
     ·rw [if_neg c6] at H
      have c6b0 : decide (x4_1 < (l0.length : Int)) = false := decide_eq_false c6
      clear c6
      obtain rfl := Option.some.inj H
      go_wp2
      go_ret
      exact ⟨_, by first | rfl | (simp [errW_none, errW_some] <;> rfl) | (simp [*, errW_none, errW_some] <;> rfl), by (with_reducible repeat (first | apply Kd.S_alloc | apply Kd.S_drewN | apply Kd.S_drew)); exact HO_3.out, by repeat (first | (with_reducible first | exact HB.out | apply xa | apply xn | apply xd) | exact HB.out)⟩
  ·rw [if_neg c3] at H
   exact absurd H (by simp)
 ·rw [if_neg c2] at H
  exact absurd H (by simp)

/-! ### slices_IndexFunc_Lint_int: function 163 -/
set_option maxHeartbeats 8000000 in
set_option maxRecDepth 100000 in
theorem slices_IndexFunc_Lint_int.any (g : Nat) (lb : Array Value) (eg : ∀ args w, (callFunc g args).run Try.prog w = .ok (.enter g args) w) (pf : Int → Option Bool)
  (A0 : Option Addr) (c0 : Nat) (l0 : List Int) (r : Int) (w : World) (hr0 : Kd.C (Kd.int .i64) w A0 l0.length l0) (hc0 : l0.length ≤ c0) (hp : PB Try.prog g lb (Kd.int .i64) encOne pf w) (h : idxO pf l0 0 = some r) :
  Calls Try.prog 163 #[.slice A0 l0.length c0, .func (.func g) #[] lb] w fun e w' => e = .returned (.int .i64 r) ∧ Below w.heap.size w w' := by
 have HR0 := xm hr0
 have HP := xm hp
 have H' := xm h
 have HB := xm (Below.refl w.heap.size w)
 have hn : (l0.length : Int) ≤ 9223372036854775807 := by have := hr0.2.1; omega
 clear hr0 hp h hc0
 go_enter Try.func163, Try.ntmps163
 go_wp2
 go_loopg [5, 8] l0.length (fun kq v5 v8 w' => ∃ kk : Nat, v8 = .int .i64 kk ∧ kk ≤ l0.length ∧ l0.length - kk ≤ kq ∧ Aside0 (idxO pf (l0.drop kk) kk = some r) ∧ Aside0 (Below w.heap.size w w'))
 case atStart => exact ⟨0, rfl, Nat.zero_le _, by omega, H', HB⟩
 case round =>
  clear H' HB
  obtain ⟨kk, rfl, hkk, hg, HA, HB⟩ := hrel
  by_cases hlt : kk < l0.length
  ·have hlti : (kk : Int) < (l0.length : Int) := by omega
   obtain ⟨ad, e0, hx0⟩ := Kd.at_int HR0.out (kk : Int) (by omega) hlti
   cases e0
   replace hx0 := (HB.out.cell (World.block_lt_of_cell? w _ hx0)).trans hx0
   simp only [Int.toNat_natCast] at hx0
   have H := HA.out
   rw [List.drop_eq_getElem_cons hlt] at H
   unfold idxO at H
   have hrd : l0[kk] = rd l0 (kk : Int) := by simp [rd, hlt]
   rw [hrd] at H
   obtain ⟨b, hb, H⟩ := Option.bind_eq_some_iff.mp H
   have hcall := HP.out _ (rd l0 (kk : Int)) [.int .i64 (rd l0 (kk : Int))] b HB.out rfl hb
   have HL := xm hcall
   clear hcall hb HA
   clear hrd
   simp only [encOne, encAgg, List.headD_cons] at HL
   cases b with
   | true =>
    obtain rfl := Option.some.inj H
    go_wp2_with (go_at_fn g; refine HL.out.mono ?_; rintro e w' ⟨rfl, hb'⟩)
    go_ret
    exact ⟨rfl, below_step HB.out hb'⟩
   | false =>
    have H1 := xm H
    clear H
    go_wp2_with (go_at_fn g; refine HL.out.mono ?_; rintro e w' ⟨rfl, hb'⟩)
    go_roundg (l0.length - (kk + 1))
    case measure => omega
    case rel => exact ⟨kk + 1, by go_num, by omega, by omega, ⟨by have := H1.out; simpa using this⟩, ⟨below_step HB.out hb'⟩⟩
  ·have : kk = l0.length := by omega
   subst this
   have H := HA.out
   rw [List.drop_length] at H
   unfold idxO at H
   obtain rfl := Option.some.inj H
   clear H HA
   go_wp2
   go_ret
   exact ⟨rfl, HB.out⟩

/-! ### slices_ContainsFunc_Lint_int: function 146 -/
set_option maxHeartbeats 8000000 in
set_option maxRecDepth 100000 in
theorem slices_ContainsFunc_Lint_int.any (g : Nat) (lb : Array Value) (eg : ∀ args w, (callFunc g args).run Try.prog w = .ok (.enter g args) w) (pf : Int → Option Bool)
  (A0 : Option Addr) (c0 : Nat) (l0 : List Int) (r : Bool) (w : World) (hr0 : Kd.C (Kd.int .i64) w A0 l0.length l0) (hc0 : l0.length ≤ c0) (hp : PB Try.prog g lb (Kd.int .i64) encOne pf w) (h : anyO pf l0 = some r) :
  Calls Try.prog 146 #[.slice A0 l0.length c0, .func (.func g) #[] lb] w fun e w' => e = .returned (.bool r) ∧ Below w.heap.size w w' := by
 rw [← idxO_any pf l0 0 (Int.le_refl 0)] at h
 obtain ⟨i, hi, hri⟩ := Option.map_eq_some_iff.mp h
 have HC := xm (slices_IndexFunc_Lint_int.any g lb eg pf A0 c0 l0 i w hr0 hc0 hp hi)
 have HR := xm hri
 clear hr0 hc0 hp h hi hri eg
 go_enter Try.func146, Try.ntmps146
 go_wp2_with (go_at_call 163; refine HC.out.mono ?_; rintro e w' ⟨rfl, hb⟩)
 go_ret
 exact ⟨by first | rfl | (rw [HR.out]; rfl) | rw [HR.out], hb⟩

/-! ### impl_areAll_int_1: function 147 -/
set_option maxHeartbeats 8000000 in
set_option maxRecDepth 100000 in
theorem impl_areAll_int_1.pb (g : Nat) (lb : Array Value) (eg : ∀ args w, (callFunc g args).run Try.prog w = .ok (.enter g args) w) (pf : Int → Option Bool) (w w1 : World) (b0 : Nat) (hw : Below w.heap.size w w1)
  (hbk : w1.heap[b0]? = some (.cells #[.func (.func g) #[] lb] 46 (0, 0))) (hp : PB Try.prog g lb (Kd.int .i64) encOne pf w) :
  PB Try.prog 147 #[.pointer (some ⟨b0, 0, none⟩)] (Kd.int .i64) encOne (fun x => (pf x).map (!·)) w1 := by
 intro W x cs b hW hK hb
 obtain ⟨b1, hb1, rfl⟩ := Option.map_eq_some_iff.mp hb
 have hWw := below_step hw hW
 have hbW := blk_below hW hbk
 have HL := xm (hp W x cs b1 hWw hK hb1)
 obtain rfl : cs = [.int .i64 x] := hK
 have hcz : W.cell? ⟨b0, 0, none⟩ = some (.func (.func g) #[] lb) := (xc hbW 0).trans rfl
 clear hp hb hb1 hWw hbW hW hbk hw
 simp only [encOne, encAgg, List.headD_cons] at HL ⊢
 go_enter Try.func147, Try.ntmps147
 go_wp2_with (go_at_fn g; refine HL.out.mono ?_; rintro e w' ⟨rfl, hb'⟩)
 go_ret
 exact ⟨rfl, hb'⟩

/-! ### impl_areAll_int: function 111 -/
theorem enters147 : ∀ args w, (callFunc 147 args).run Try.prog w = .ok (.enter 147 args) w := enters_of Try.func147 (by kernel_rfl) rfl
set_option maxHeartbeats 8000000 in
set_option maxRecDepth 100000 in
theorem impl_areAll_int.any (g : Nat) (lb : Array Value) (eg : ∀ args w, (callFunc g args).run Try.prog w = .ok (.enter g args) w) (pf : Int → Option Bool)
  (A0 : Option Addr) (c0 : Nat) (l0 : List Int) (r : Bool) (w : World) (hr0 : Kd.C (Kd.int .i64) w A0 l0.length l0) (hc0 : l0.length ≤ c0) (hp : PB Try.prog g lb (Kd.int .i64) encOne pf w) (h : allO pf l0 = some r) :
  Calls Try.prog 111 #[.slice A0 l0.length c0, .func (.func g) #[] lb] w fun e w' => e = .returned (.bool r) ∧ Below w.heap.size w w' := by
 rw [← any_all pf l0] at h
 obtain ⟨b, hb, rfl⟩ := Option.map_eq_some_iff.mp h
 have hB1 : Below w.heap.size w (w.alloc (.cells #[.func (.func g) #[] lb] 46)) := xa (Below.refl _ _) _
 have HC := xm (slices_ContainsFunc_Lint_int.any 147 #[.pointer (some ⟨w.heap.size, 0, none⟩)] enters147 _ A0 c0 l0 b _ (Kd.C_below hr0 hB1) hc0 (impl_areAll_int_1.pb g lb eg pf w _ w.heap.size hB1 (heap_new w _ _) hp) hb)
 have HB1 := xm hB1
 clear hr0 hc0 hp h hb eg hB1
 go_enter Try.func111, Try.ntmps111
 go_wp2_with (go_at_call 146; refine HC.out.mono ?_; rintro e w' ⟨rfl, hb⟩)
 go_ret
 exact ⟨rfl, below_step HB1.out hb⟩

/-! ### impl_within: function 114 -/
def impl_within.f (a0 : Int) (a1 : Int) (a2 : Int) : Option (Bool) := if a1 ≤ a0 then (some (decide (a0 ≤ a2))) else (some false)
set_option maxHeartbeats 8000000 in
set_option maxRecDepth 100000 in
theorem impl_within.calls (a0 : Int) (a1 : Int) (a2 : Int) (r : Bool) (w : World) (h : impl_within.f a0 a1 a2 = some r) :
  Calls Try.prog 114 #[.int .i64 a0, .int .i64 a1, .int .i64 a2] w fun e w' => e = .returned (.bool r) ∧ Drawn0 w w' := by
 have H : (if a1 ≤ a0 then (some (decide (a0 ≤ a2))) else (some false)) = some r := h
 clear h
 by_cases c4 : a1 ≤ a0
 ·rw [if_pos c4] at H
  have c4b0 : decide (a1 ≤ a0) = true := decide_eq_true c4
  clear c4
  obtain rfl := Option.some.inj H
  go_enter Try.func114, Try.ntmps114
  go_wp2
  go_ret
  exact ⟨by first | rfl | (simp; done) | (simp [*]; done), by repeat (first | exact Drawn0.refl _ | apply Drawn0.step)⟩
 ·rw [if_neg c4] at H
  have c4b0 : decide (a1 ≤ a0) = false := decide_eq_false c4
  clear c4
  obtain rfl := Option.some.inj H
  go_enter Try.func114, Try.ntmps114
  go_wp2
  go_ret
  exact ⟨by first | rfl | (simp; done) | (simp [*]; done), by repeat (first | exact Drawn0.refl _ | apply Drawn0.step)⟩

/-! ### impl_isCell: function 112 -/
def impl_isCell.f (a0 : Int) : Option (Bool) := (impl_within.f a0 (-100000) 100000).bind fun t176 => (some t176)
set_option maxHeartbeats 8000000 in
set_option maxRecDepth 100000 in
theorem impl_isCell.calls (a0 : Int) (r : Bool) (w : World) (h : impl_isCell.f a0 = some r) :
  Calls Try.prog 112 #[.int .i64 a0] w fun e w' => e = .returned (.bool r) ∧ Drawn0 w w' := by
 have H : ((impl_within.f a0 (-100000) 100000).bind fun t176 => (some t176)) = some r := h
 clear h
 replace H := Option.bind_eq_some_iff.mp H
 obtain ⟨t176, A20, H⟩ := H
 replace H : (some t176) = some r := H
 have A2 := xm A20
 clear A20
 obtain rfl := Option.some.inj H
 go_enter Try.func112, Try.ntmps112
 go_wp2_with (first | ((with_reducible refine gate_callee (f := 114) rfl ?_); refine goesL_ (some 4) rfl rfl Try.func114 (by kernel_rfl) rfl #[.int .i64 a0, .int .i64 (-100000), .int .i64 100000] rfl mB ?_; (with_reducible refine (impl_within.calls a0 (-100000) 100000 t176 _ A2.out).mono ?_); rintro e w' ⟨rfl, ⟨nd, rfl⟩⟩; refine ⟨_, rfl, ?_⟩))
 go_ret
 exact ⟨by first | rfl | (simp; done) | (simp [*]; done), by repeat (first | exact Drawn0.refl _ | apply Drawn0.step)⟩

/-! ### impl_areAll_int__impl_isCell: function 100000 -/
theorem enters112 : ∀ args w, (callFunc 112 args).run Try.prog w = .ok (.enter 112 args) w := enters_of Try.func112 (by kernel_rfl) rfl
def impl_areAll_int__impl_isCell.f (l0 : List Int)  : Option Bool := allO (fun x => impl_isCell.f x) l0
set_option maxHeartbeats 8000000 in
set_option maxRecDepth 100000 in
theorem impl_areAll_int__impl_isCell.calls (A0 : Option Addr) (c0 : Nat) (l0 : List Int)  (r : Bool) (w : World) (hr0 : Kd.C (Kd.int .i64) w A0 l0.length l0) (hc0 : l0.length ≤ c0) (h : impl_areAll_int__impl_isCell.f l0  = some r) :
  Calls Try.prog 111 #[.slice A0 l0.length c0, .func (.func 112) #[] #[]] w fun e w' => e = .returned (.bool r) ∧ Below w.heap.size w w' := by
 refine impl_areAll_int.any 112 #[] enters112 (fun x => impl_isCell.f x) A0 c0 l0 r w hr0 hc0 ?_ h
 intro W x cs b hW hK hb
 obtain rfl : cs = [.int .i64 x] := hK
 simp only [encOne, encAgg, List.headD_cons, app0, app1, app2, app3]
 refine (impl_isCell.calls x b W hb).mono ?_
 rintro e w' ⟨he, hd⟩
 exact ⟨he, hd.below⟩

/-! ### impl_GoodRow: function 47 -/
def impl_GoodRow.f (l0_0 : List Int) : Option (Bool) := if (l0_0.length : Int) ≤ 6 then ((impl_areAll_int__impl_isCell.f l0_0).bind fun t178 => (some t178)) else (some false)
set_option maxHeartbeats 8000000 in
set_option maxRecDepth 100000 in
theorem impl_GoodRow.calls (A0_0 : Option Addr) (c0_0 : Nat) (l0_0 : List Int) (r : Bool) (w : World) (hr0_0 : Kd.C (Kd.int .i64) w A0_0 l0_0.length l0_0) (hc0_0 : l0_0.length ≤ c0_0) (h : impl_GoodRow.f l0_0 = some r) :
  Calls Try.prog 47 #[.agg #[.slice A0_0 l0_0.length c0_0]] w fun e w' => e = .returned (.bool r) ∧ Below w.heap.size w w' := by
 have hu26 := Try.underlying26
 have HR0_0 := xm hr0_0
 have HC0_0 := xm hc0_0
 clear hr0_0 hc0_0
 have HB := xm (Below.refl w.heap.size w)
 have H : (if (l0_0.length : Int) ≤ 6 then ((impl_areAll_int__impl_isCell.f l0_0).bind fun t178 => (some t178)) else (some false)) = some r := h
 clear h
 by_cases c2 : (l0_0.length : Int) ≤ 6
 ·rw [if_pos c2] at H
  have c2b0 : decide ((l0_0.length : Int) ≤ 6) = true := decide_eq_true c2
  have c2b1 : decide (l0_0.length ≤ 6) = true := decide_eq_true (by omega)
  clear c2
  replace H := Option.bind_eq_some_iff.mp H
  obtain ⟨t178, A30, H⟩ := H
  replace H : (some t178) = some r := H
  have A3 := xm A30
  clear A30
  obtain rfl := Option.some.inj H
  go_enter Try.func47, Try.ntmps47
  go_wp2_with (first | ((with_reducible refine gate_dst (N := 1) rfl ?_); refine box_event ?hg (N := 1) ?hd (cs := #[.slice A0_0 l0_0.length c0_0]) (t := 26) ?hr ?_; (case hd => rfl); (case hg => rfl); (case hr => exact zB); intro gb177 hg w4 hbox hb; have n0_ := xm (below_step bB hb); have n1_ := xm (hbox); have n2_ := xm ((by rw [hg]; exact (xz bB) : w.heap.size ≤ gb177)); have n3_ := xm ((by rw [hg]; exact (xz bB) : w.heap.size ≤ gb177)); clear HB; have HB := n0_; have BK177 := n1_; have GW177 := n2_; have GE177 := n3_; clear n0_ n1_ n2_ n3_; clear hb hbox hg; obtain ⟨hcz5_0, hfz5_0⟩ := cz1 BK177.out) | (go_at_call 111; (with_reducible refine (impl_areAll_int__impl_isCell.calls _ _ l0_0 t178 _ ?side1 ?side2 A3.out).mono ?_); (case side1 => exact cB (Kd.C_below HR0_0.out HB.out)); (case side2 => exact HC0_0.out); rintro e w6 ⟨rfl, hb⟩; have n0_ := xm (blk_below (kB BK177) hb); have n1_ := xm (below_step bG hb); clear BK177; clear HB; have BK177 := n0_; have HB := n1_; clear n0_ n1_; (try clear hb); (try clear hb2); (try clear hk); (try clear hi)))
  go_ret
  exact ⟨by first | rfl | (simp [errW_none, errW_some] <;> rfl) | (simp [*, errW_none, errW_some] <;> rfl), by repeat (first | (with_reducible first | exact HB.out | apply xa | apply xn | apply xd | refine xt ?_ GE177.out) | exact HB.out)⟩
 ·rw [if_neg c2] at H
  have c2b0 : decide ((l0_0.length : Int) ≤ 6) = false := decide_eq_false c2
  have c2b1 : decide (l0_0.length ≤ 6) = false := decide_eq_false (by omega)
  clear c2
  obtain rfl := Option.some.inj H
  go_enter Try.func47, Try.ntmps47
  go_wp2_with (first | ((with_reducible refine gate_dst (N := 1) rfl ?_); refine box_event ?hg (N := 1) ?hd (cs := #[.slice A0_0 l0_0.length c0_0]) (t := 26) ?hr ?_; (case hd => rfl); (case hg => rfl); (case hr => exact zB); intro gb177 hg w7 hbox hb; have n0_ := xm (below_step bB hb); have n1_ := xm (hbox); have n2_ := xm ((by rw [hg]; exact (xz bB) : w.heap.size ≤ gb177)); have n3_ := xm ((by rw [hg]; exact (xz bB) : w.heap.size ≤ gb177)); clear HB; have HB := n0_; have BK177 := n1_; have GW177 := n2_; have GE177 := n3_; clear n0_ n1_ n2_ n3_; clear hb hbox hg; obtain ⟨hcz8_0, hfz8_0⟩ := cz1 BK177.out))
  go_ret
  exact ⟨by first | rfl | (simp [errW_none, errW_some] <;> rfl) | (simp [*, errW_none, errW_some] <;> rfl), by repeat (first | (with_reducible first | exact HB.out | apply xa | apply xn | apply xd | refine xt ?_ GE177.out) | exact HB.out)⟩

/-! ### slices_IndexFunc_LLint_Lint: function 170 -/
set_option maxHeartbeats 8000000 in
set_option maxRecDepth 100000 in
theorem slices_IndexFunc_LLint_Lint.any (g : Nat) (lb : Array Value) (eg : ∀ args w, (callFunc g args).run Try.prog w = .ok (.enter g args) w) (pf : List Int → Option Bool)
  (A0 : Option Addr) (c0 : Nat) (l0 : List (List Int)) (r : Int) (w : World) (hr0 : Kd.C (Kd.slice 3 (Kd.int .i64)) w A0 l0.length l0) (hc0 : l0.length ≤ c0) (hp : PB Try.prog g lb (Kd.slice 3 (Kd.int .i64)) encOne pf w) (h : idxO pf l0 0 = some r) :
  Calls Try.prog 170 #[.slice A0 l0.length c0, .func (.func g) #[] lb] w fun e w' => e = .returned (.int .i64 r) ∧ Below w.heap.size w w' := by
 have HR0 := xm hr0
 have HP := xm hp
 have H' := xm h
 have HB := xm (Below.refl w.heap.size w)
 have hn : (l0.length : Int) ≤ 9223372036854775807 := by have := hr0.2.1; omega
 clear hr0 hp h hc0
 go_enter Try.func170, Try.ntmps170
 go_wp2
 go_loopg [5, 8] l0.length (fun kq v5 v8 w' => ∃ kk : Nat, v8 = .int .i64 kk ∧ kk ≤ l0.length ∧ l0.length - kk ≤ kq ∧ Aside0 (idxO pf (l0.drop kk) kk = some r) ∧ Aside0 (Below w.heap.size w w'))
 case atStart => exact ⟨0, rfl, Nat.zero_le _, by omega, H', HB⟩
 case round =>
  clear H' HB
  obtain ⟨kk, rfl, hkk, hg, HA, HB⟩ := hrel
  by_cases hlt : kk < l0.length
  ·have hlti : (kk : Int) < (l0.length : Int) := by omega
   obtain ⟨ad, A_0, c_0, e0, hx0, hl0, hi0⟩ := at_L1 HR0.out (kk : Int) (by omega) hlti
   cases e0
   replace hx0 := (HB.out.cell (World.block_lt_of_cell? w _ hx0)).trans hx0
   simp only [Int.toNat_natCast] at hx0
   have H := HA.out
   rw [List.drop_eq_getElem_cons hlt] at H
   unfold idxO at H
   have hrd : l0[kk] = rd_L1 l0 (kk : Int) := by simp [rd_L1, hlt]
   rw [hrd] at H
   obtain ⟨b, hb, H⟩ := Option.bind_eq_some_iff.mp H
   have hcall := HP.out _ (rd_L1 l0 (kk : Int)) [.slice A_0 (rd_L1 l0 (kk : Int)).length c_0] b HB.out ⟨A_0, c_0, rfl, hl0, Kd.C_below hi0 HB.out⟩ hb
   have HL := xm hcall
   have HI0 := xm hi0
   clear hi0 hl0
   clear hcall hb HA
   clear hrd
   simp only [encOne, encAgg, List.headD_cons] at HL
   cases b with
   | true =>
    obtain rfl := Option.some.inj H
    go_wp2_with (go_at_fn g; refine HL.out.mono ?_; rintro e w' ⟨rfl, hb'⟩)
    go_ret
    exact ⟨rfl, below_step HB.out hb'⟩
   | false =>
    have H1 := xm H
    clear H
    go_wp2_with (go_at_fn g; refine HL.out.mono ?_; rintro e w' ⟨rfl, hb'⟩)
    go_roundg (l0.length - (kk + 1))
    case measure => omega
    case rel => exact ⟨kk + 1, by go_num, by omega, by omega, ⟨by have := H1.out; simpa using this⟩, ⟨below_step HB.out hb'⟩⟩
  ·have : kk = l0.length := by omega
   subst this
   have H := HA.out
   rw [List.drop_length] at H
   unfold idxO at H
   obtain rfl := Option.some.inj H
   clear H HA
   go_wp2
   go_ret
   exact ⟨rfl, HB.out⟩

/-! ### slices_ContainsFunc_LLint_Lint: function 164 -/
set_option maxHeartbeats 8000000 in
set_option maxRecDepth 100000 in
theorem slices_ContainsFunc_LLint_Lint.any (g : Nat) (lb : Array Value) (eg : ∀ args w, (callFunc g args).run Try.prog w = .ok (.enter g args) w) (pf : List Int → Option Bool)
  (A0 : Option Addr) (c0 : Nat) (l0 : List (List Int)) (r : Bool) (w : World) (hr0 : Kd.C (Kd.slice 3 (Kd.int .i64)) w A0 l0.length l0) (hc0 : l0.length ≤ c0) (hp : PB Try.prog g lb (Kd.slice 3 (Kd.int .i64)) encOne pf w) (h : anyO pf l0 = some r) :
  Calls Try.prog 164 #[.slice A0 l0.length c0, .func (.func g) #[] lb] w fun e w' => e = .returned (.bool r) ∧ Below w.heap.size w w' := by
 rw [← idxO_any pf l0 0 (Int.le_refl 0)] at h
 obtain ⟨i, hi, hri⟩ := Option.map_eq_some_iff.mp h
 have HC := xm (slices_IndexFunc_LLint_Lint.any g lb eg pf A0 c0 l0 i w hr0 hc0 hp hi)
 have HR := xm hri
 clear hr0 hc0 hp h hi hri eg
 go_enter Try.func164, Try.ntmps164
 go_wp2_with (go_at_call 170; refine HC.out.mono ?_; rintro e w' ⟨rfl, hb⟩)
 go_ret
 exact ⟨by first | rfl | (rw [HR.out]; rfl) | rw [HR.out], hb⟩

/-! ### impl_areAll_Lint_1: function 165 -/
set_option maxHeartbeats 8000000 in
set_option maxRecDepth 100000 in
theorem impl_areAll_Lint_1.pb (g : Nat) (lb : Array Value) (eg : ∀ args w, (callFunc g args).run Try.prog w = .ok (.enter g args) w) (pf : List Int → Option Bool) (w w1 : World) (b0 : Nat) (hw : Below w.heap.size w w1)
  (hbk : w1.heap[b0]? = some (.cells #[.func (.func g) #[] lb] 165 (0, 0))) (hp : PB Try.prog g lb (Kd.slice 3 (Kd.int .i64)) encOne pf w) :
  PB Try.prog 165 #[.pointer (some ⟨b0, 0, none⟩)] (Kd.slice 3 (Kd.int .i64)) encOne (fun x => (pf x).map (!·)) w1 := by
 intro W x cs b hW hK hb
 obtain ⟨b1, hb1, rfl⟩ := Option.map_eq_some_iff.mp hb
 have hWw := below_step hw hW
 have hbW := blk_below hW hbk
 have HL := xm (hp W x cs b1 hWw hK hb1)
 obtain ⟨A_0, c_0, rfl, hl0, hi0⟩ := hK
 clear hl0 hi0
 have hcz : W.cell? ⟨b0, 0, none⟩ = some (.func (.func g) #[] lb) := (xc hbW 0).trans rfl
 clear hp hb hb1 hWw hbW hW hbk hw
 simp only [encOne, encAgg, List.headD_cons] at HL ⊢
 go_enter Try.func165, Try.ntmps165
 go_wp2_with (go_at_fn g; refine HL.out.mono ?_; rintro e w' ⟨rfl, hb'⟩)
 go_ret
 exact ⟨rfl, hb'⟩

end Go.Proofs.Ytcbikaoackbbjaa.G
