/- Written by a program of this claim's own, out of the translation: functions of the program as plain functions, and that the calls answer as these. No conditions. -/
import Derived.Test.YtmelechhnimlnaaG0
import Derived.Test.YtmelechhnimlnaaG2
import Derived.Test.YtmelechhnimlnaaG3
import Derived.Test.YtmelechhnimlnaaG7
import Derived.Test.YtmelechhnimlnaaG8
namespace Go.Proofs.Ytmelechhnimlnaa.G
open Go.RowKit Go.Proofs.Ytmelechhnimlnaa.X Go.Proofs.YtmelechhnimlnaaW.PrintWords Go.Proofs.YtmelechhnimlnaaW.PrintLast Go.Proofs.YtmelechhnimlnaaW.PrintMore
attribute [local go_sem] max2_int min2_int max_two min_two max_three min_three max_four min_four   -- for this text's walks alone
set_option linter.unusedVariables false
set_option linter.unusedSimpArgs false

/-! ### spec_JoinRows: function 6 -/
def spec_JoinRows.j0 : Nat → List (List Int) → Bool → List Int → List Int → Option (List Int × Bool)
 | 0, _, _, _, _ => none
 | k + 1, x2, x28, x270000, x271000 => if x28 = true then (some (([] : List Int), false)) else ((spec_l1Join.f k x270000 x271000 x2).bind fun bt275 => (if bt275.2 = true then (some (bt275.1, true)) else (some (([] : List Int), false))))
def spec_JoinRows.f (k : Nat) (l0_0 : List Int) (l1_0 : List Int) (l2 : List (List Int)) : Option (List Int × Bool) := (spec_GoodRow.f k l0_0).bind fun t272 => (if t272 = true then ((spec_GoodRow.f k l1_0).bind fun t273 => (if t273 = true then ((spec_l1Pairs.f k l2 (l0_0.length : Int) (l1_0.length : Int)).bind fun t274 => (spec_JoinRows.j0 k l2 (!t274) l0_0 l1_0)) else (spec_JoinRows.j0 k l2 true l0_0 l1_0))) else (spec_JoinRows.j0 k l2 true l0_0 l1_0))
theorem spec_JoinRows.mono_l : ∀ k, (∀ y0 y1 y2 y3, LeO (spec_JoinRows.j0 k y0 y1 y2 y3) (spec_JoinRows.j0 (k + 1) y0 y1 y2 y3))
 | 0 => fun _ _ _ _ r h => by simp [spec_JoinRows.j0] at h
 | k + 1 => by
  have ih0 := spec_JoinRows.mono_l k
  ·intro y0 y1 y2 y3
   unfold spec_JoinRows.j0
   repeat' first
   | (with_reducible exact ih0 _ _ _ _)
   | (with_reducible exact spec_GoodRow.mono _ _)
   | (with_reducible exact spec_l1Join.mono _ _ _ _)
   | (with_reducible exact spec_l1Pairs.mono _ _ _ _)
   | (with_reducible exact LeO.refl _)
   | (with_reducible exact LeO.none _)
   | (with_reducible refine LeO.ite ?_ ?_)
   | (with_reducible refine LeO.bind ?_ (fun _ => ?_))
   | exact ih0 _ _ _ _
   | exact spec_GoodRow.mono _ _
   | exact spec_l1Join.mono _ _ _ _
   | exact spec_l1Pairs.mono _ _ _ _
   | exact LeO.none _
   | refine LeO.ite ?_ ?_
   | refine LeO.bind ?_ (fun _ => ?_)
theorem spec_JoinRows.mono : ∀ a0 a1 a2 k, LeO (spec_JoinRows.f k a0 a1 a2) (spec_JoinRows.f (k + 1) a0 a1 a2) := by
 intro a0 a1 a2 k
 have ih0 := spec_JoinRows.mono_l k
 unfold spec_JoinRows.f
 repeat' first
   | (with_reducible exact ih0 _ _ _ _)
   | (with_reducible exact spec_GoodRow.mono _ _)
   | (with_reducible exact spec_l1Join.mono _ _ _ _)
   | (with_reducible exact spec_l1Pairs.mono _ _ _ _)
   | (with_reducible exact LeO.refl _)
   | (with_reducible exact LeO.none _)
   | (with_reducible refine LeO.ite ?_ ?_)
   | (with_reducible refine LeO.bind ?_ (fun _ => ?_))
   | exact ih0 _ _ _ _
   | exact spec_GoodRow.mono _ _
   | exact spec_l1Join.mono _ _ _ _
   | exact spec_l1Pairs.mono _ _ _ _
   | exact LeO.none _
   | refine LeO.ite ?_ ?_
   | refine LeO.bind ?_ (fun _ => ?_)
set_option maxHeartbeats 8000000 in
set_option maxRecDepth 100000 in
theorem spec_JoinRows.calls (k : Nat) (A0_0 : Option Addr) (c0_0 : Nat) (l0_0 : List Int) (A1_0 : Option Addr) (c1_0 : Nat) (l1_0 : List Int) (A2 : Option Addr) (c2 : Nat) (l2 : List (List Int)) (r1 : List Int) (r2 : Bool) (w : World) (hr0_0 : Kd.C (Kd.int .i64) w A0_0 l0_0.length l0_0) (hc0_0 : l0_0.length ≤ c0_0) (hr1_0 : Kd.C (Kd.int .i64) w A1_0 l1_0.length l1_0) (hc1_0 : l1_0.length ≤ c1_0) (hr2 : Kd.C (Kd.slice 3 (Kd.int .i64)) w A2 l2.length l2) (hc2 : l2.length ≤ c2) (h : spec_JoinRows.f k l0_0 l1_0 l2 = some (r1, r2)) :
  Calls Try.prog 6 #[.agg #[.slice A0_0 l0_0.length c0_0], .agg #[.slice A1_0 l1_0.length c1_0], .slice A2 l2.length c2] w fun e w' => ∃ v0_ : Value, e = .returned (.tuple #[.agg #[v0_], .bool r2]) ∧ Kd.R (Kd.int .i64) 3 w' w.heap.size (fun _ => True) v0_ r1 ∧ Below w.heap.size w w' := by
 have hu25 := Try.underlying25
 have HR0_0 := xm hr0_0
 have HC0_0 := xm hc0_0
 clear hr0_0 hc0_0
 have HR1_0 := xm hr1_0
 have HC1_0 := xm hc1_0
 clear hr1_0 hc1_0
 have HR2 := xm hr2
 have HC2 := xm hc2
 clear hr2 hc2
 have HB := xm (Below.refl w.heap.size w)
 have H : ((spec_GoodRow.f k l0_0).bind fun t272 => (if t272 = true then ((spec_GoodRow.f k l1_0).bind fun t273 => (if t273 = true then ((spec_l1Pairs.f k l2 (l0_0.length : Int) (l1_0.length : Int)).bind fun t274 => (spec_JoinRows.j0 k l2 (!t274) l0_0 l1_0)) else (spec_JoinRows.j0 k l2 true l0_0 l1_0))) else (spec_JoinRows.j0 k l2 true l0_0 l1_0))) = some (r1, r2) := h
 clear h
 have HC4 := xm H
 clear H
 go_enter Try.func6, Try.ntmps6
 go_upto_region 1 with (first | ((with_reducible refine gate_dst (N := 3) rfl ?_); (try (refine gate_guard (by rfl) ?_; dsimp only)); refine box_event ?hg (N := 3) ?hd (cs := #[.slice A0_0 l0_0.length c0_0]) (t := 25) ?hr ?_; (case hd => rfl); (case hg => rfl); (case hr => exact zB); intro gb269 hg w5 hbox hb; have n0_ := xm (below_step bB hb); have n1_ := xm (hbox); have n2_ := xm ((by rw [hg]; exact (xz bB) : w.heap.size ≤ gb269)); have n3_ := xm ((by rw [hg]; exact (xz bB) : w.heap.size ≤ gb269)); revert n0_ n1_ n2_ n3_; clear HB; intro HB BK269 GW269 GE269; clear hb hbox hg) | ((with_reducible refine gate_dst (N := 4) rfl ?_); (try (refine gate_guard (by rfl) ?_; dsimp only)); refine box_event ?hg (N := 4) ?hd (cs := #[.slice A1_0 l1_0.length c1_0]) (t := 25) ?hr ?_; (case hd => rfl); (case hg => rfl); (case hr => exact zB); intro gb270 hg w6 hbox hb; have n0_ := xm (blk_below (kB BK269) hb); have n1_ := xm (below_step bG hb); have n2_ := xm (hbox); have n3_ := xm ((by rw [hg]; exact (xz bG) : w.heap.size ≤ gb270)); have n4_ := xm ((by rw [hg]; exact (xz bG) : w.heap.size ≤ gb270)); have n5_ := xm ((by rw [hg]; exact Nat.ne_of_lt (blk_lt (kB BK269)) : gb269 ≠ gb270)); have n6_ := xm ((by rw [hg]; exact Nat.ne_of_gt (blk_lt (kB BK269)) : gb270 ≠ gb269)); revert n0_ n1_ n2_ n3_ n4_ n5_ n6_; clear BK269 HB; intro BK269 HB BK270 GW270 GE270 NB269_270 NB270_269; clear hb hbox hg) | ((with_reducible refine gate_dst (N := 6) rfl ?_); (try (refine gate_guard (by rfl) ?_; dsimp only)); refine box_event ?hg (N := 6) ?hd (cs := #[.slice none 0 0]) (t := 25) ?hr ?_; (case hd => rfl); (case hg => rfl); (case hr => exact zB); intro gb271 hg w7 hbox hb; have n0_ := xm (blk_below (kB BK269) hb); have n1_ := xm (blk_below (kB BK270) hb); have n2_ := xm (below_step bG hb); have n3_ := xm (hbox); have n4_ := xm ((by rw [hg]; exact (xz bG) : w.heap.size ≤ gb271)); have n5_ := xm ((by rw [hg]; exact (xz bG) : w.heap.size ≤ gb271)); have n6_ := xm ((by rw [hg]; exact Nat.ne_of_lt (blk_lt (kB BK269)) : gb269 ≠ gb271)); have n7_ := xm ((by rw [hg]; exact Nat.ne_of_gt (blk_lt (kB BK269)) : gb271 ≠ gb269)); have n8_ := xm ((by rw [hg]; exact Nat.ne_of_lt (blk_lt (kB BK270)) : gb270 ≠ gb271)); have n9_ := xm ((by rw [hg]; exact Nat.ne_of_gt (blk_lt (kB BK270)) : gb271 ≠ gb270)); revert n0_ n1_ n2_ n3_ n4_ n5_ n6_ n7_ n8_ n9_; clear BK269 BK270 HB; intro BK269 BK270 HB BK271 GW271 GE271 NB269_271 NB271_269 NB270_271 NB271_270; clear hb hbox hg))
 (try simp only [Act.put, xi, xj, xk])
 go_cut [28] (fun v28 wc => ∃ (kq : Nat) (x28_3 : Bool), v28 = .bool x28_3 ∧ Aside0 (spec_JoinRows.j0 kq l2 x28_3 l0_0 l1_0 = some (r1, r2)) ∧ Aside0 (kq ≤ k) ∧ Aside0 (wc.heap[gb269]? = some (.cells #[(.slice A0_0 l0_0.length c0_0)] 25 (0, 0))) ∧ Aside0 (wc.heap[gb270]? = some (.cells #[(.slice A1_0 l1_0.length c1_0)] 25 (0, 0))) ∧ Aside0 (wc.heap[gb271]? = some (.cells #[(.slice none 0 0)] 25 (0, 0))) ∧ Aside0 (Below w.heap.size w wc))
 case first =>
  have H := HC4.out
  clear HC4
  replace H := Option.bind_eq_some_iff.mp H
  obtain ⟨t272, A80, H⟩ := H
  replace H : (if t272 = true then ((spec_GoodRow.f k l1_0).bind fun t273 => (if t273 = true then ((spec_l1Pairs.f k l2 (l0_0.length : Int) (l1_0.length : Int)).bind fun t274 => (spec_JoinRows.j0 k l2 (!t274) l0_0 l1_0)) else (spec_JoinRows.j0 k l2 true l0_0 l1_0))) else (spec_JoinRows.j0 k l2 true l0_0 l1_0)) = some (r1, r2) := H
  have A8 := xm A80
  clear A80
  by_cases c9 : t272 = true
  ·subst c9
   have H1 : ((spec_GoodRow.f k l1_0).bind fun t273 => (if t273 = true then ((spec_l1Pairs.f k l2 (l0_0.length : Int) (l1_0.length : Int)).bind fun t274 => (spec_JoinRows.j0 k l2 (!t274) l0_0 l1_0)) else (spec_JoinRows.j0 k l2 true l0_0 l1_0))) = some (r1, r2) := by first | (with_reducible rfl) | (rw [if_pos rfl] at H; exact H)
   clear H
   have H := H1
   clear H1
   replace H := Option.bind_eq_some_iff.mp H
   obtain ⟨t273, A100, H⟩ := H
   replace H : (if t273 = true then ((spec_l1Pairs.f k l2 (l0_0.length : Int) (l1_0.length : Int)).bind fun t274 => (spec_JoinRows.j0 k l2 (!t274) l0_0 l1_0)) else (spec_JoinRows.j0 k l2 true l0_0 l1_0)) = some (r1, r2) := H
   have A10 := xm A100
   clear A100
   by_cases c11 : t273 = true
   ·subst c11
    have H1 : ((spec_l1Pairs.f k l2 (l0_0.length : Int) (l1_0.length : Int)).bind fun t274 => (spec_JoinRows.j0 k l2 (!t274) l0_0 l1_0)) = some (r1, r2) := by first | (with_reducible rfl) | (rw [if_pos rfl] at H; exact H)
    clear H
    have H := H1
    clear H1
    replace H := Option.bind_eq_some_iff.mp H
    obtain ⟨t274, A120, H⟩ := H
    replace H : (spec_JoinRows.j0 k l2 (!t274) l0_0 l1_0) = some (r1, r2) := H
    have A12 := xm A120
    clear A120
    have H' := xm H
    clear H
    have hnb13 := NB269_270.out
    have hnc13 := NB270_269.out
    have hnb14 := NB269_271.out
    have hnc14 := NB271_269.out
    obtain ⟨hcz15_0, hfz15_0⟩ := cz1 BK269.out
    go_wp2_with (first | ((with_reducible refine gate_callee (f := 17) rfl ?_); refine goesL_ (some 11) rfl rfl Try.func17 (by kernel_rfl) rfl #[.agg #[.slice A0_0 l0_0.length c0_0]] rfl mB ?_; (with_reducible refine (spec_GoodRow.calls k _ _ l0_0 true _ ?side1 ?side2 A8.out).mono ?_); (case side1 => exact cB (Kd.C_below HR0_0.out HB.out)); (case side2 => exact HC0_0.out); rintro e w16 ⟨rfl, hb⟩; refine ⟨_, rfl, ?_⟩; have n0_ := xm (blk_below (kB BK269) hb); have n1_ := xm (blk_below (kB BK270) hb); have n2_ := xm (blk_below (kB BK271) hb); have n3_ := xm (below_step bG hb); revert n0_ n1_ n2_ n3_; clear BK269 BK270 BK271 HB; intro BK269 BK270 BK271 HB; (try clear hb); have hnb17 := NB270_271.out; have hnc17 := NB271_270.out; obtain ⟨hcz18_0, hfz18_0⟩ := cz1 BK270.out) | (go_at_call 17; (with_reducible refine (spec_GoodRow.calls k _ _ l1_0 true _ ?side1 ?side2 A10.out).mono ?_); (case side1 => exact cB (Kd.C_below HR1_0.out HB.out)); (case side2 => exact HC1_0.out); rintro e w19 ⟨rfl, hb⟩; have n0_ := xm (blk_below (kB BK269) hb); have n1_ := xm (blk_below (kB BK270) hb); have n2_ := xm (blk_below (kB BK271) hb); have n3_ := xm (below_step bG hb); revert n0_ n1_ n2_ n3_; clear BK269 BK270 BK271 HB; intro BK269 BK270 BK271 HB; (try clear hb); obtain ⟨hcz20_0, hfz20_0⟩ := cz1 BK269.out; obtain ⟨hcz21_0, hfz21_0⟩ := cz1 BK270.out) | (go_at_call 18; (with_reducible refine (spec_l1Pairs.calls k _ _ l2 (l0_0.length : Int) (l1_0.length : Int) t274 _ ?side1 ?side2 A12.out).mono ?_); (case side1 => exact cB (Kd.C_below HR2.out HB.out)); (case side2 => exact HC2.out); rintro e w' ⟨rfl, ⟨nd, rfl⟩⟩))
    go_meet
    case rel => exact ⟨_, (!t274), sB, H', ⟨by first | omega | exact Nat.le_refl _⟩, ⟨kB BK269⟩, ⟨kB BK270⟩, ⟨kB BK271⟩, ⟨bG⟩⟩
   ·replace c11 := Bool.eq_false_iff.mpr c11
    subst c11
    have H1 : (spec_JoinRows.j0 k l2 true l0_0 l1_0) = some (r1, r2) := by first | (with_reducible rfl) | (rw [if_neg (show ¬ (false = true) by decide)] at H; exact H)
    clear H
    have H := H1
    clear H1
    have H' := xm H
    clear H
    have hnb22 := NB269_270.out
    have hnc22 := NB270_269.out
    have hnb23 := NB269_271.out
    have hnc23 := NB271_269.out
    obtain ⟨hcz24_0, hfz24_0⟩ := cz1 BK269.out
    go_wp2_with (first | ((with_reducible refine gate_callee (f := 17) rfl ?_); refine goesL_ (some 11) rfl rfl Try.func17 (by kernel_rfl) rfl #[.agg #[.slice A0_0 l0_0.length c0_0]] rfl mB ?_; (with_reducible refine (spec_GoodRow.calls k _ _ l0_0 true _ ?side1 ?side2 A8.out).mono ?_); (case side1 => exact cB (Kd.C_below HR0_0.out HB.out)); (case side2 => exact HC0_0.out); rintro e w25 ⟨rfl, hb⟩; refine ⟨_, rfl, ?_⟩; have n0_ := xm (blk_below (kB BK269) hb); have n1_ := xm (blk_below (kB BK270) hb); have n2_ := xm (blk_below (kB BK271) hb); have n3_ := xm (below_step bG hb); revert n0_ n1_ n2_ n3_; clear BK269 BK270 BK271 HB; intro BK269 BK270 BK271 HB; (try clear hb); have hnb26 := NB270_271.out; have hnc26 := NB271_270.out; obtain ⟨hcz27_0, hfz27_0⟩ := cz1 BK270.out) | (go_at_call 17; (with_reducible refine (spec_GoodRow.calls k _ _ l1_0 false _ ?side1 ?side2 A10.out).mono ?_); (case side1 => exact cB (Kd.C_below HR1_0.out HB.out)); (case side2 => exact HC1_0.out); rintro e w28 ⟨rfl, hb⟩; have n0_ := xm (blk_below (kB BK269) hb); have n1_ := xm (blk_below (kB BK270) hb); have n2_ := xm (blk_below (kB BK271) hb); have n3_ := xm (below_step bG hb); revert n0_ n1_ n2_ n3_; clear BK269 BK270 BK271 HB; intro BK269 BK270 BK271 HB; (try clear hb)))
    go_meet
    case rel => exact ⟨_, (true), sB, H', ⟨by first | omega | exact Nat.le_refl _⟩, ⟨kB BK269⟩, ⟨kB BK270⟩, ⟨kB BK271⟩, ⟨bG⟩⟩
  ·replace c9 := Bool.eq_false_iff.mpr c9
   subst c9
   have H1 : (spec_JoinRows.j0 k l2 true l0_0 l1_0) = some (r1, r2) := by first | (with_reducible rfl) | (rw [if_neg (show ¬ (false = true) by decide)] at H; exact H)
   clear H
   have H := H1
   clear H1
   have H' := xm H
   clear H
   have hnb29 := NB269_270.out
   have hnc29 := NB270_269.out
   have hnb30 := NB269_271.out
   have hnc30 := NB271_269.out
   obtain ⟨hcz31_0, hfz31_0⟩ := cz1 BK269.out
   go_wp2_with (first | ((with_reducible refine gate_callee (f := 17) rfl ?_); refine goesL_ (some 11) rfl rfl Try.func17 (by kernel_rfl) rfl #[.agg #[.slice A0_0 l0_0.length c0_0]] rfl mB ?_; (with_reducible refine (spec_GoodRow.calls k _ _ l0_0 false _ ?side1 ?side2 A8.out).mono ?_); (case side1 => exact cB (Kd.C_below HR0_0.out HB.out)); (case side2 => exact HC0_0.out); rintro e w32 ⟨rfl, hb⟩; refine ⟨_, rfl, ?_⟩; have n0_ := xm (blk_below (kB BK269) hb); have n1_ := xm (blk_below (kB BK270) hb); have n2_ := xm (blk_below (kB BK271) hb); have n3_ := xm (below_step bG hb); revert n0_ n1_ n2_ n3_; clear BK269 BK270 BK271 HB; intro BK269 BK270 BK271 HB; (try clear hb)))
   go_meet
   case rel => exact ⟨_, (true), sB, H', ⟨by first | omega | exact Nat.le_refl _⟩, ⟨kB BK269⟩, ⟨kB BK270⟩, ⟨kB BK271⟩, ⟨bG⟩⟩
 case rest =>
  clear HC4
  try clear c1
  try clear c2
  try clear p2
  try clear c3
  try clear c6
  try clear c9
  try clear c11
  try clear c13
  try clear c14
  try clear c17
  try clear c22
  try clear c23
  try clear c26
  try clear c29
  try clear c30
  try clear hcz15_0
  try clear hcz18_0
  try clear hcz20_0
  try clear hcz21_0
  try clear hcz24_0
  try clear hcz27_0
  try clear hcz31_0
  try clear hfz15_0
  try clear hfz18_0
  try clear hfz20_0
  try clear hfz21_0
  try clear hfz24_0
  try clear hfz27_0
  try clear hfz31_0
  obtain ⟨kq, x28_3, rfl, HA, HJ3, BK269, BK270, BK271, HB⟩ := hcut
  cases kq with
  | zero => exact absurd HA.out (by simp [spec_JoinRows.j0])
  | succ kj3 =>
   have H := HA.out
   clear HA
   simp only [spec_JoinRows.j0] at H
   by_cases c33 : x28_3 = true
   ·subst c33
    have H1 : (some (([] : List Int), false)) = some (r1, r2) := by first | (with_reducible rfl) | (rw [if_pos rfl] at H; exact H)
    clear H
    have H := H1
    clear H1
    simp only [Option.some.injEq, Prod.mk.injEq] at H
    obtain ⟨rfl, rfl⟩ := H
    have hnb34 := NB271_269.out
    have hnc34 := NB269_271.out
    have hnb35 := NB271_270.out
    have hnc35 := NB270_271.out
    obtain ⟨hcz36_0, hfz36_0⟩ := cz1 BK271.out
    go_wp2
    refine bodyPost_ret (results_ct rfl _ _ gb271 25 #[.slice none 0 0] (0, 0) _ rfl (by (with_reducible repeat (first | refine xq ?_ _ | refine xr ?_ | refine xo ?_ _)); refine blk_put (cs := #[.slice none 0 0]) ?_ 0 _ rfl; (with_reducible repeat (first | refine xq ?_ _ | refine xr ?_ | refine xo ?_ _)); exact BK271.out) Try.underlying25 rfl (by kernel_rfl)) rfl ?_
    exact ⟨_, eB, by first | exact Kd.R_nil _ _ _ _ _ | exact Kd.N_nil _ _ _ _ _ | exact Kd.V_nil _ _ _ _ _ | exact Kd.Q_nil _ _ _ _ _ | exact Kd.S_nil _ _ _ _ _, bG⟩
   ·replace c33 := Bool.eq_false_iff.mpr c33
    subst c33
    have H1 : ((spec_l1Join.f kj3 l0_0 l1_0 l2).bind fun bt275 => (if bt275.2 = true then (some (bt275.1, true)) else (some (([] : List Int), false)))) = some (r1, r2) := by first | (with_reducible rfl) | (rw [if_neg (show ¬ (false = true) by decide)] at H; exact H)
    clear H
    have H := H1
    clear H1
    replace H := Option.bind_eq_some_iff.mp H
    obtain ⟨⟨t275, t278⟩, A370, H⟩ := H
    replace H : (if t278 = true then (some (t275, true)) else (some (([] : List Int), false))) = some (r1, r2) := H
    have A37 := xm A370
    clear A370
    by_cases c38 : t278 = true
    ·subst c38
     have H1 : (some (t275, true)) = some (r1, r2) := by first | (with_reducible rfl) | (rw [if_pos rfl] at H; exact H)
     clear H
     have H := H1
     clear H1
     simp only [Option.some.injEq, Prod.mk.injEq] at H
     obtain ⟨rfl, rfl⟩ := H
     have hnb39 := NB269_270.out
     have hnc39 := NB270_269.out
     have hnb40 := NB269_271.out
     have hnc40 := NB271_269.out
     obtain ⟨hcz41_0, hfz41_0⟩ := cz1 BK269.out
     have hnb42 := NB270_271.out
     have hnc42 := NB271_270.out
     obtain ⟨hcz43_0, hfz43_0⟩ := cz1 BK270.out
     go_wp2_with (first | ((with_reducible refine gate_callee (f := 19) rfl ?_); refine goesL_ (some 34) rfl rfl Try.func19 (by kernel_rfl) rfl #[.agg #[.slice A0_0 l0_0.length c0_0], .agg #[.slice A1_0 l1_0.length c1_0], .slice A2 l2.length c2] rfl mB ?_; (with_reducible refine (spec_l1Join.calls kj3 _ _ l0_0 _ _ l1_0 _ _ l2 t275 true _ ?side1 ?side2 ?side3 ?side4 ?side5 ?side6 A37.out).mono ?_); (case side1 => exact cB (Kd.C_below HR0_0.out HB.out)); (case side2 => exact HC0_0.out); (case side3 => exact cB (Kd.C_below HR1_0.out HB.out)); (case side4 => exact HC1_0.out); (case side5 => exact cB (Kd.C_below HR2.out HB.out)); (case side6 => exact HC2.out); rintro e w44 ⟨v276, rfl, ho0, hb⟩; refine ⟨_, rfl, ?_⟩; have n0_ := xm (Kd.R_lower ho0 (xz bG)); have n1_ := xm (blk_below (kB BK269) hb); have n2_ := xm (blk_below (kB BK270) hb); have n3_ := xm (blk_below (kB BK271) hb); have n4_ := xm (below_step bG hb); revert n0_ n1_ n2_ n3_ n4_; clear BK269 BK270 BK271 HB; intro HO277 BK269 BK270 BK271 HB; (try clear hb); (try clear ho0)) | ((with_reducible refine gate_dst (N := 8) rfl ?_); (try (refine gate_guard (by rfl) ?_; dsimp only)); refine box_event ?hg (N := 8) ?hd (cs := #[.slice none 0 0]) (t := 25) ?hr ?_; (case hd => rfl); (case hg => rfl); (case hr => exact zB); intro gb279 hg w45 hbox hb; have n0_ := xm (Kd.R_below (rB HO277) hb); have n1_ := xm (blk_below (kB BK269) hb); have n2_ := xm (blk_below (kB BK270) hb); have n3_ := xm (blk_below (kB BK271) hb); have n4_ := xm (below_step bG hb); have n5_ := xm (hbox); have n6_ := xm ((by rw [hg]; exact (xz bG) : w.heap.size ≤ gb279)); have n7_ := xm ((by rw [hg]; exact (xz bG) : w.heap.size ≤ gb279)); have n8_ := xm ((by rw [hg]; exact Nat.ne_of_lt (blk_lt (kB BK269)) : gb269 ≠ gb279)); have n9_ := xm ((by rw [hg]; exact Nat.ne_of_gt (blk_lt (kB BK269)) : gb279 ≠ gb269)); have n10_ := xm ((by rw [hg]; exact Nat.ne_of_lt (blk_lt (kB BK270)) : gb270 ≠ gb279)); have n11_ := xm ((by rw [hg]; exact Nat.ne_of_gt (blk_lt (kB BK270)) : gb279 ≠ gb270)); have n12_ := xm ((by rw [hg]; exact Nat.ne_of_lt (blk_lt (kB BK271)) : gb271 ≠ gb279)); have n13_ := xm ((by rw [hg]; exact Nat.ne_of_gt (blk_lt (kB BK271)) : gb279 ≠ gb271)); revert n0_ n1_ n2_ n3_ n4_ n5_ n6_ n7_ n8_ n9_ n10_ n11_ n12_ n13_; clear HO277 BK269 BK270 BK271 HB; intro HO277 BK269 BK270 BK271 HB BK279 GW279 GE279 NB269_279 NB279_269 NB270_279 NB279_270 NB271_279 NB279_271; clear hb hbox hg; obtain ⟨Ao46, co46, eo46⟩ := Kd.R_slice HO277.out; subst eo46; have hnb47 := NB279_269.out; have hnc47 := NB269_279.out; have hnb48 := NB279_270.out; have hnc48 := NB270_279.out; have hnb49 := NB279_271.out; have hnc49 := NB271_279.out; obtain ⟨hcz50_0, hfz50_0⟩ := cz1 BK279.out; obtain ⟨hcz51_0, hfz51_0⟩ := cz1 BK271.out))
     refine bodyPost_ret (results_ct rfl _ _ gb271 25 #[.slice Ao46 t275.length co46] (0, 0) _ rfl (by (with_reducible repeat (first | refine xq ?_ _ | refine xr ?_ | refine xo ?_ _)); refine blk_put (cs := #[.slice none 0 0]) ?_ 0 _ rfl; (with_reducible repeat (first | refine xq ?_ _ | refine xr ?_ | refine xo ?_ _)); refine blk_far ?_ NB271_279.out _; (with_reducible repeat (first | refine xq ?_ _ | refine xr ?_ | refine xo ?_ _)); exact BK271.out) Try.underlying25 rfl (by kernel_rfl)) rfl ?_
     exact ⟨_, eB, by (with_reducible repeat (first | apply Kd.R_alloc | apply Kd.R_drewN | apply Kd.R_drew)); exact Kd.R_mono (Kd.R_far (p := ⟨gb271, 0, none⟩) (Kd.R_far (p := ⟨gb279, 0, none⟩) (Kd.R_types (Kd.R_types HO277.out BK279.out (by decide)) BK271.out (by decide)) (fun _ hk => hk.1.2) (.slice Ao46 t275.length co46)) (fun _ hk => hk.2) (.slice Ao46 t275.length co46)) (fun _ hk => trivial), bG⟩
    ·replace c38 := Bool.eq_false_iff.mpr c38
     subst c38
     have H1 : (some (([] : List Int), false)) = some (r1, r2) := by first | (with_reducible rfl) | (rw [if_neg (show ¬ (false = true) by decide)] at H; exact H)
     clear H
     have H := H1
     clear H1
     simp only [Option.some.injEq, Prod.mk.injEq] at H
     obtain ⟨rfl, rfl⟩ := H
     have hnb52 := NB269_270.out
     have hnc52 := NB270_269.out
     have hnb53 := NB269_271.out
     have hnc53 := NB271_269.out
     obtain ⟨hcz54_0, hfz54_0⟩ := cz1 BK269.out
     have hnb55 := NB270_271.out
     have hnc55 := NB271_270.out
     obtain ⟨hcz56_0, hfz56_0⟩ := cz1 BK270.out
     go_wp2_with (first | ((with_reducible refine gate_callee (f := 19) rfl ?_); refine goesL_ (some 34) rfl rfl Try.func19 (by kernel_rfl) rfl #[.agg #[.slice A0_0 l0_0.length c0_0], .agg #[.slice A1_0 l1_0.length c1_0], .slice A2 l2.length c2] rfl mB ?_; (with_reducible refine (spec_l1Join.calls kj3 _ _ l0_0 _ _ l1_0 _ _ l2 t275 false _ ?side1 ?side2 ?side3 ?side4 ?side5 ?side6 A37.out).mono ?_); (case side1 => exact cB (Kd.C_below HR0_0.out HB.out)); (case side2 => exact HC0_0.out); (case side3 => exact cB (Kd.C_below HR1_0.out HB.out)); (case side4 => exact HC1_0.out); (case side5 => exact cB (Kd.C_below HR2.out HB.out)); (case side6 => exact HC2.out); rintro e w57 ⟨v276, rfl, ho0, hb⟩; refine ⟨_, rfl, ?_⟩; have n0_ := xm (Kd.R_lower ho0 (xz bG)); have n1_ := xm (blk_below (kB BK269) hb); have n2_ := xm (blk_below (kB BK270) hb); have n3_ := xm (blk_below (kB BK271) hb); have n4_ := xm (below_step bG hb); revert n0_ n1_ n2_ n3_ n4_; clear BK269 BK270 BK271 HB; intro HO277 BK269 BK270 BK271 HB; (try clear hb); (try clear ho0)) | ((with_reducible refine gate_dst (N := 8) rfl ?_); (try (refine gate_guard (by rfl) ?_; dsimp only)); refine box_event ?hg (N := 8) ?hd (cs := #[.slice none 0 0]) (t := 25) ?hr ?_; (case hd => rfl); (case hg => rfl); (case hr => exact zB); intro gb279 hg w58 hbox hb; have n0_ := xm (Kd.R_below (rB HO277) hb); have n1_ := xm (blk_below (kB BK269) hb); have n2_ := xm (blk_below (kB BK270) hb); have n3_ := xm (blk_below (kB BK271) hb); have n4_ := xm (below_step bG hb); have n5_ := xm (hbox); have n6_ := xm ((by rw [hg]; exact (xz bG) : w.heap.size ≤ gb279)); have n7_ := xm ((by rw [hg]; exact (xz bG) : w.heap.size ≤ gb279)); have n8_ := xm ((by rw [hg]; exact Nat.ne_of_lt (blk_lt (kB BK269)) : gb269 ≠ gb279)); have n9_ := xm ((by rw [hg]; exact Nat.ne_of_gt (blk_lt (kB BK269)) : gb279 ≠ gb269)); have n10_ := xm ((by rw [hg]; exact Nat.ne_of_lt (blk_lt (kB BK270)) : gb270 ≠ gb279)); have n11_ := xm ((by rw [hg]; exact Nat.ne_of_gt (blk_lt (kB BK270)) : gb279 ≠ gb270)); have n12_ := xm ((by rw [hg]; exact Nat.ne_of_lt (blk_lt (kB BK271)) : gb271 ≠ gb279)); have n13_ := xm ((by rw [hg]; exact Nat.ne_of_gt (blk_lt (kB BK271)) : gb279 ≠ gb271)); revert n0_ n1_ n2_ n3_ n4_ n5_ n6_ n7_ n8_ n9_ n10_ n11_ n12_ n13_; clear HO277 BK269 BK270 BK271 HB; intro HO277 BK269 BK270 BK271 HB BK279 GW279 GE279 NB269_279 NB279_269 NB270_279 NB279_270 NB271_279 NB279_271; clear hb hbox hg; obtain ⟨Ao59, co59, eo59⟩ := Kd.R_slice HO277.out; subst eo59; have hnb60 := NB279_269.out; have hnc60 := NB269_279.out; have hnb61 := NB279_270.out; have hnc61 := NB270_279.out; have hnb62 := NB279_271.out; have hnc62 := NB271_279.out; obtain ⟨hcz63_0, hfz63_0⟩ := cz1 BK279.out; obtain ⟨hcz64_0, hfz64_0⟩ := cz1 BK271.out))
     refine bodyPost_ret (results_ct rfl _ _ gb271 25 #[.slice none 0 0] (0, 0) _ rfl (by (with_reducible repeat (first | refine xq ?_ _ | refine xr ?_ | refine xo ?_ _)); refine blk_put (cs := #[.slice none 0 0]) ?_ 0 _ rfl; (with_reducible repeat (first | refine xq ?_ _ | refine xr ?_ | refine xo ?_ _)); refine blk_far ?_ NB271_279.out _; (with_reducible repeat (first | refine xq ?_ _ | refine xr ?_ | refine xo ?_ _)); exact BK271.out) Try.underlying25 rfl (by kernel_rfl)) rfl ?_
     exact ⟨_, eB, by first | exact Kd.R_nil _ _ _ _ _ | exact Kd.N_nil _ _ _ _ _ | exact Kd.V_nil _ _ _ _ _ | exact Kd.Q_nil _ _ _ _ _ | exact Kd.S_nil _ _ _ _ _, bG⟩

/-! ### laws_sameInts: function 20 -/
def laws_sameInts.l0 : Nat → List Int → List Int → Int → Int → Option (Bool)
 | 0, _, _, _, _ => none
 | k + 1, x0, x1, x12, x13 => if x13 < x12 then (if 0 ≤ x13 then (if x13 < (x0.length : Int) then (if x13 < (x1.length : Int) then (if (rd x0 x13) = (rd x1 x13) then (laws_sameInts.l0 k x0 x1 x12 (wrap64 (x13 + 1))) else (some false)) else (none)) else (none)) else (none)) else (some true)
def laws_sameInts.f (k : Nat) (l0 : List Int) (l1 : List Int) : Option (Bool) := if (l0.length : Int) = (l1.length : Int) then (laws_sameInts.l0 k l0 l1 (l0.length : Int) 0) else (some false)
theorem laws_sameInts.mono_l : ∀ k, (∀ y0 y1 y2 y3, LeO (laws_sameInts.l0 k y0 y1 y2 y3) (laws_sameInts.l0 (k + 1) y0 y1 y2 y3))
 | 0 => fun _ _ _ _ r h => by simp [laws_sameInts.l0] at h
 | k + 1 => by
  have ih0 := laws_sameInts.mono_l k
  ·intro y0 y1 y2 y3
   unfold laws_sameInts.l0
   repeat' first
   | (with_reducible exact ih0 _ _ _ _)
   | (with_reducible exact LeO.refl _)
   | (with_reducible exact LeO.none _)
   | (with_reducible refine LeO.ite ?_ ?_)
   | (with_reducible refine LeO.bind ?_ (fun _ => ?_))
   | exact ih0 _ _ _ _
   | exact LeO.none _
   | refine LeO.ite ?_ ?_
   | refine LeO.bind ?_ (fun _ => ?_)
theorem laws_sameInts.mono : ∀ a0 a1 k, LeO (laws_sameInts.f k a0 a1) (laws_sameInts.f (k + 1) a0 a1) := by
 intro a0 a1 k
 have ih0 := laws_sameInts.mono_l k
 unfold laws_sameInts.f
 repeat' first
   | (with_reducible exact ih0 _ _ _ _)
   | (with_reducible exact LeO.refl _)
   | (with_reducible exact LeO.none _)
   | (with_reducible refine LeO.ite ?_ ?_)
   | (with_reducible refine LeO.bind ?_ (fun _ => ?_))
   | exact ih0 _ _ _ _
   | exact LeO.none _
   | refine LeO.ite ?_ ?_
   | refine LeO.bind ?_ (fun _ => ?_)
set_option maxHeartbeats 8000000 in
set_option maxRecDepth 100000 in
theorem laws_sameInts.calls (k : Nat) (A0 : Option Addr) (c0 : Nat) (l0 : List Int) (A1 : Option Addr) (c1 : Nat) (l1 : List Int) (r : Bool) (w : World) (hr0 : Kd.C (Kd.int .i64) w A0 l0.length l0) (hc0 : l0.length ≤ c0) (hr1 : Kd.C (Kd.int .i64) w A1 l1.length l1) (hc1 : l1.length ≤ c1) (h : laws_sameInts.f k l0 l1 = some r) :
  Calls Try.prog 20 #[.slice A0 l0.length c0, .slice A1 l1.length c1] w fun e w' => e = .returned (.bool r) ∧ Drawn0 w w' := by
 have HR0 := xm hr0
 have HC0 := xm hc0
 clear hr0 hc0
 have HR1 := xm hr1
 have HC1 := xm hc1
 clear hr1 hc1
 have H : (if (l0.length : Int) = (l1.length : Int) then (laws_sameInts.l0 k l0 l1 (l0.length : Int) 0) else (some false)) = some r := h
 clear h
 by_cases c3 : (l0.length : Int) = (l1.length : Int)
 ·rw [if_pos c3] at H
  have c3b0 : ((l0.length : Int) == (l1.length : Int)) = true := beq_iff_eq.mpr c3
  have c3b1 : ((l0.length : Int) != (l1.length : Int)) = false := bne_eq_false_iff_eq.mpr c3
  have c3b2 : (l0.length == l1.length) = true := by first | simpa using c3 | (simp at c3 ⊢; omega)
  clear c3
  have H' := xm H
  clear H
  go_enter Try.func20, Try.ntmps20
  go_wp2
  repeat (go_quiet (fail); try go_wp2)
  go_loopg [13] k (fun kq v13 w' => ∃ (x13_1 : Int), v13 = .int .i64 x13_1 ∧ Aside0 (laws_sameInts.l0 kq l0 l1 (l0.length : Int) x13_1 = some r) ∧ Aside0 (kq ≤ k) ∧ Drawn0 w w')
  case atStart => exact ⟨(0), sB, H', ⟨Nat.le_refl _⟩, by repeat (first | exact Drawn0.refl _ | apply Drawn0.step)⟩
  case round =>
   clear H'
   try clear c1
   try clear c2
   try clear p2
   try clear c3
   try clear c3b0 c3b1 c3b2
   obtain ⟨x13_1, rfl, HA, HK1, ⟨m1, rfl⟩⟩ := hrel
   cases gk with
   | zero => exact absurd HA.out (by simp [laws_sameInts.l0])
   | succ k1 =>
    have H := HA.out
    clear HA
    simp only [laws_sameInts.l0] at H
    by_cases c4 : x13_1 < (l0.length : Int)
    ·rw [if_pos c4] at H
     have c4b0 : decide (x13_1 < (l0.length : Int)) = true := decide_eq_true c4
     clear c4
     by_cases c5 : 0 ≤ x13_1
     ·rw [if_pos c5] at H
      have c5b0 : decide (0 ≤ x13_1) = true := decide_eq_true c5
      clear c5
      by_cases c6 : x13_1 < (l0.length : Int)
      ·rw [if_pos c6] at H
       have c6b0 : decide (x13_1 < (l0.length : Int)) = true := decide_eq_true c6
       clear c6
       by_cases c7 : x13_1 < (l1.length : Int)
       ·rw [if_pos c7] at H
        have c7b0 : decide (x13_1 < (l1.length : Int)) = true := decide_eq_true c7
        clear c7
        by_cases c8 : (rd l0 x13_1) = (rd l1 x13_1)
        ·rw [if_pos c8] at H
         have c8b0 : ((rd l0 x13_1) == (rd l1 x13_1)) = true := beq_iff_eq.mpr c8
         have c8b1 : ((rd l0 x13_1) != (rd l1 x13_1)) = false := bne_eq_false_iff_eq.mpr c8
         clear c8
         have H' := xm H
         clear H
         have p280 : 0 ≤ (x13_1 : Int) := of_decide_eq_true aB
         have q280 : x13_1 < (l0.length : Int) := of_decide_eq_true aB
         obtain ⟨ad280, e280, hx280_0⟩ := Kd.at_int HR0.out x13_1 p280 q280
         cases e280
         replace p280 := eq_true p280
         replace q280 := eq_true q280
         have p281 : 0 ≤ (x13_1 : Int) := of_decide_eq_true aB
         have q281 : x13_1 < (l1.length : Int) := of_decide_eq_true aB
         obtain ⟨ad281, e281, hx281_0⟩ := Kd.at_int HR1.out x13_1 p281 q281
         cases e281
         replace p281 := eq_true p281
         replace q281 := eq_true q281
         go_wp2
         repeat (go_quiet (fail); try go_wp2)
         go_roundg k1
         case measure => have := HK1.out; omega
         case rel => exact ⟨(wrap64 (x13_1 + 1)), sB, H', ⟨by have := HK1.out; omega⟩, by repeat (first | exact Drawn0.refl _ | apply Drawn0.step)⟩
        ·rw [if_neg c8] at H
         have c8b0 : ((rd l0 x13_1) == (rd l1 x13_1)) = false := beq_eq_false_iff_ne.mpr c8
         have c8b1 : ((rd l0 x13_1) != (rd l1 x13_1)) = true := bne_iff_ne.mpr c8
         obtain rfl := Option.some.inj H
         have p280 : 0 ≤ (x13_1 : Int) := of_decide_eq_true aB
         have q280 : x13_1 < (l0.length : Int) := of_decide_eq_true aB
         obtain ⟨ad280, e280, hx280_0⟩ := Kd.at_int HR0.out x13_1 p280 q280
         cases e280
         replace p280 := eq_true p280
         replace q280 := eq_true q280
         have p281 : 0 ≤ (x13_1 : Int) := of_decide_eq_true aB
         have q281 : x13_1 < (l1.length : Int) := of_decide_eq_true aB
         obtain ⟨ad281, e281, hx281_0⟩ := Kd.at_int HR1.out x13_1 p281 q281
         cases e281
         replace p281 := eq_true p281
         replace q281 := eq_true q281
         go_wp2
         repeat (go_quiet (fail); try go_wp2)
         go_ret
         exact ⟨sB, dB⟩
       ·rw [if_neg c7] at H
        exact absurd H (by simp)
      ·rw [if_neg c6] at H
       exact absurd H (by simp)
     ·rw [if_neg c5] at H
      exact absurd H (by simp)
    ·rw [if_neg c4] at H
     have c4b0 : decide (x13_1 < (l0.length : Int)) = false := decide_eq_false c4
     clear c4
     obtain rfl := Option.some.inj H
     go_wp2
     repeat (go_quiet (fail); try go_wp2)
     go_ret
     exact ⟨sB, dB⟩
 ·rw [if_neg c3] at H
  have c3b0 : ((l0.length : Int) == (l1.length : Int)) = false := beq_eq_false_iff_ne.mpr c3
  have c3b1 : ((l0.length : Int) != (l1.length : Int)) = true := bne_iff_ne.mpr c3
  have c3b2 : (l0.length == l1.length) = false := by first | simpa using c3 | (simp at c3 ⊢; omega)
  obtain rfl := Option.some.inj H
  go_enter Try.func20, Try.ntmps20
  go_wp2
  repeat (go_quiet (fail); try go_wp2)
  go_ret
  exact ⟨sB, dB⟩

/-! ### laws_sameRow: function 7 -/
def laws_sameRow.f (k : Nat) (l0_0 : List Int) (l1_0 : List Int) : Option (Bool) := (laws_sameInts.f k l0_0 l1_0).bind fun t284 => (some t284)
theorem laws_sameRow.mono : ∀ a0 a1 k, LeO (laws_sameRow.f k a0 a1) (laws_sameRow.f (k + 1) a0 a1) := by
 intro a0 a1 k
 unfold laws_sameRow.f
 repeat' first
   | (with_reducible exact laws_sameInts.mono _ _ _)
   | (with_reducible exact LeO.refl _)
   | (with_reducible exact LeO.none _)
   | (with_reducible refine LeO.ite ?_ ?_)
   | (with_reducible refine LeO.bind ?_ (fun _ => ?_))
   | exact laws_sameInts.mono _ _ _
   | exact LeO.none _
   | refine LeO.ite ?_ ?_
   | refine LeO.bind ?_ (fun _ => ?_)
set_option maxHeartbeats 8000000 in
set_option maxRecDepth 100000 in
theorem laws_sameRow.calls (k : Nat) (A0_0 : Option Addr) (c0_0 : Nat) (l0_0 : List Int) (A1_0 : Option Addr) (c1_0 : Nat) (l1_0 : List Int) (r : Bool) (w : World) (hr0_0 : Kd.C (Kd.int .i64) w A0_0 l0_0.length l0_0) (hc0_0 : l0_0.length ≤ c0_0) (hr1_0 : Kd.C (Kd.int .i64) w A1_0 l1_0.length l1_0) (hc1_0 : l1_0.length ≤ c1_0) (h : laws_sameRow.f k l0_0 l1_0 = some r) :
  Calls Try.prog 7 #[.agg #[.slice A0_0 l0_0.length c0_0], .agg #[.slice A1_0 l1_0.length c1_0]] w fun e w' => e = .returned (.bool r) ∧ Below w.heap.size w w' := by
 have hu25 := Try.underlying25
 have HR0_0 := xm hr0_0
 have HC0_0 := xm hc0_0
 clear hr0_0 hc0_0
 have HR1_0 := xm hr1_0
 have HC1_0 := xm hc1_0
 clear hr1_0 hc1_0
 have HB := xm (Below.refl w.heap.size w)
 have H : ((laws_sameInts.f k l0_0 l1_0).bind fun t284 => (some t284)) = some r := h
 clear h
 replace H := Option.bind_eq_some_iff.mp H
 obtain ⟨t284, A30, H⟩ := H
 replace H : (some t284) = some r := H
 have A3 := xm A30
 clear A30
 obtain rfl := Option.some.inj H
 go_enter Try.func7, Try.ntmps7
 go_wp2_with (first | ((with_reducible refine gate_dst (N := 2) rfl ?_); refine box_event ?hg (N := 2) ?hd (cs := #[.slice A0_0 l0_0.length c0_0]) (t := 25) ?hr ?_; (case hd => rfl); (case hg => rfl); (case hr => exact zB); intro gb282 hg w4 hbox hb; have n0_ := xm (below_step bB hb); have n1_ := xm (hbox); have n2_ := xm ((by rw [hg]; exact (xz bB) : w.heap.size ≤ gb282)); have n3_ := xm ((by rw [hg]; exact (xz bB) : w.heap.size ≤ gb282)); revert n0_ n1_ n2_ n3_; clear HB; intro HB BK282 GW282 GE282; clear hb hbox hg) | ((with_reducible refine gate_dst (N := 3) rfl ?_); refine box_event ?hg (N := 3) ?hd (cs := #[.slice A1_0 l1_0.length c1_0]) (t := 25) ?hr ?_; (case hd => rfl); (case hg => rfl); (case hr => exact zB); intro gb283 hg w5 hbox hb; have n0_ := xm (blk_below (kB BK282) hb); have n1_ := xm (below_step bG hb); have n2_ := xm (hbox); have n3_ := xm ((by rw [hg]; exact (xz bG) : w.heap.size ≤ gb283)); have n4_ := xm ((by rw [hg]; exact (xz bG) : w.heap.size ≤ gb283)); have n5_ := xm ((by rw [hg]; exact Nat.ne_of_lt (blk_lt (kB BK282)) : gb282 ≠ gb283)); have n6_ := xm ((by rw [hg]; exact Nat.ne_of_gt (blk_lt (kB BK282)) : gb283 ≠ gb282)); revert n0_ n1_ n2_ n3_ n4_ n5_ n6_; clear BK282 HB; intro BK282 HB BK283 GW283 GE283 NB282_283 NB283_282; clear hb hbox hg; have hnb6 := NB282_283.out; have hnc6 := NB283_282.out; obtain ⟨hcz7_0, hfz7_0⟩ := cz1 BK282.out; obtain ⟨hcz8_0, hfz8_0⟩ := cz1 BK283.out) | ((with_reducible refine gate_callee (f := 20) rfl ?_); refine goesL_ (some 9) rfl rfl Try.func20 (by kernel_rfl) rfl #[.slice A0_0 l0_0.length c0_0, .slice A1_0 l1_0.length c1_0] rfl mB ?_; (with_reducible refine (laws_sameInts.calls k _ _ l0_0 _ _ l1_0 t284 _ ?side1 ?side2 ?side3 ?side4 A3.out).mono ?_); (case side1 => exact cB (Kd.C_below HR0_0.out HB.out)); (case side2 => exact HC0_0.out); (case side3 => exact cB (Kd.C_below HR1_0.out HB.out)); (case side4 => exact HC1_0.out); rintro e w' ⟨rfl, ⟨nd, rfl⟩⟩; refine ⟨_, rfl, ?_⟩))
 go_ret
 exact ⟨eB, bG⟩

/-! ### impl_areColumns_1: function 39 -/
def impl_areColumns_1.f (a0 : Int) (a1 : Int) : Option (Bool) := (impl_isPlace.f a0 a1).bind fun t286 => (some t286)
set_option maxHeartbeats 8000000 in
set_option maxRecDepth 100000 in
theorem impl_areColumns_1.calls (a0 : Int) (gc1 : Nat) (a1 : Int) (r : Bool) (w : World) (hbk1 : w.heap[gc1]? = some (.cells #[.int .i64 a1] 3 (0, 0))) (h : impl_areColumns_1.f a0 a1 = some r) :
  Calls Try.prog 39 #[.int .i64 a0, .pointer (some ⟨gc1, 0, none⟩)] w fun e w' => e = .returned (.bool r) ∧ Below w.heap.size w w' := by
 have BK285 := xm hbk1
 clear hbk1
 have HB := xm (Below.refl w.heap.size w)
 have H : ((impl_isPlace.f a0 a1).bind fun t286 => (some t286)) = some r := h
 clear h
 replace H := Option.bind_eq_some_iff.mp H
 obtain ⟨t286, A30, H⟩ := H
 replace H : (some t286) = some r := H
 have A3 := xm A30
 clear A30
 obtain rfl := Option.some.inj H
 obtain ⟨hcz4_0, hfz4_0⟩ := cz1 BK285.out
 go_enter Try.func39, Try.ntmps39
 go_wp2_with (first | ((with_reducible refine gate_callee (f := 34) rfl ?_); refine goesL_ (some 6) rfl rfl Try.func34 (by kernel_rfl) rfl #[.int .i64 a0, .int .i64 a1] rfl mB ?_; (with_reducible refine (impl_isPlace.calls a0 a1 t286 _ A3.out).mono ?_); rintro e w' ⟨rfl, ⟨nd, rfl⟩⟩; refine ⟨_, rfl, ?_⟩))
 go_ret
 exact ⟨eB, bG⟩

/-! ### impl_areAll_int__impl_areColumns_1: function 100004 -/
theorem enters39 : ∀ args w, (callFunc 39 args).run Try.prog w = .ok (.enter 39 args) w := enters_of Try.func39 (by kernel_rfl) rfl
def impl_areAll_int__impl_areColumns_1.f (l0 : List Int) (a1 : Int) : Option Bool := allO (fun x => impl_areColumns_1.f x a1) l0
set_option maxHeartbeats 8000000 in
set_option maxRecDepth 100000 in
theorem impl_areAll_int__impl_areColumns_1.calls (A0 : Option Addr) (c0 : Nat) (l0 : List Int) (gc1 : Nat) (a1 : Int) (r : Bool) (w : World) (hr0 : Kd.C (Kd.int .i64) w A0 l0.length l0) (hc0 : l0.length ≤ c0) (hbk1 : w.heap[gc1]? = some (.cells #[.int .i64 a1] 3 (0, 0))) (h : impl_areAll_int__impl_areColumns_1.f l0 a1 = some r) :
  Calls Try.prog 23 #[.slice A0 l0.length c0, .func (.func 39) #[] #[.pointer (some ⟨gc1, 0, none⟩)]] w fun e w' => e = .returned (.bool r) ∧ Below w.heap.size w w' := by
 refine impl_areAll_int.any 39 #[.pointer (some ⟨gc1, 0, none⟩)] enters39 (fun x => impl_areColumns_1.f x a1) A0 c0 l0 r w hr0 hc0 ?_ h
 intro W x cs b hW hK hb
 obtain rfl : cs = [.int .i64 x] := hK
 simp only [encOne, encAgg, List.headD_cons, app0, app1, app2, app3]
 refine (impl_areColumns_1.calls x gc1 a1 b W (blk_below hW hbk1) hb).mono ?_
 rintro e w' ⟨he, hd⟩
 exact ⟨he, hd⟩

/-! ### impl_areColumns: function 21 -/
def impl_areColumns.f (l0 : List Int) (a1 : Int) : Option (Bool) := if (l0.length : Int) ≤ 6 then ((impl_areAll_int__impl_areColumns_1.f l0 a1).bind fun t288 => (some t288)) else (some false)
set_option maxHeartbeats 8000000 in
set_option maxRecDepth 100000 in
theorem impl_areColumns.calls (A0 : Option Addr) (c0 : Nat) (l0 : List Int) (a1 : Int) (r : Bool) (w : World) (hr0 : Kd.C (Kd.int .i64) w A0 l0.length l0) (hc0 : l0.length ≤ c0) (h : impl_areColumns.f l0 a1 = some r) :
  Calls Try.prog 21 #[.slice A0 l0.length c0, .int .i64 a1] w fun e w' => e = .returned (.bool r) ∧ Below w.heap.size w w' := by
 have HR0 := xm hr0
 have HC0 := xm hc0
 clear hr0 hc0
 have HB := xm (Below.refl w.heap.size w)
 have H : (if (l0.length : Int) ≤ 6 then ((impl_areAll_int__impl_areColumns_1.f l0 a1).bind fun t288 => (some t288)) else (some false)) = some r := h
 clear h
 by_cases c3 : (l0.length : Int) ≤ 6
 ·rw [if_pos c3] at H
  have c3b0 : decide ((l0.length : Int) ≤ 6) = true := decide_eq_true c3
  have c3b1 : decide (l0.length ≤ 6) = true := decide_eq_true (by omega)
  clear c3
  replace H := Option.bind_eq_some_iff.mp H
  obtain ⟨t288, A40, H⟩ := H
  replace H : (some t288) = some r := H
  have A4 := xm A40
  clear A40
  obtain rfl := Option.some.inj H
  go_enter Try.func21, Try.ntmps21
  go_wp2_with (first | ((with_reducible refine gate_dst (N := 3) rfl ?_); refine box_event ?hg (N := 3) ?hd (cs := #[.int .i64 a1]) (t := 3) ?hr ?_; (case hd => rfl); (case hg => rfl); (case hr => exact zB); intro gb287 hg w5 hbox hb; have n0_ := xm (below_step bB hb); have n1_ := xm (hbox); have n2_ := xm ((by rw [hg]; exact (xz bB) : w.heap.size ≤ gb287)); have n3_ := xm ((by rw [hg]; exact (xz bB) : w.heap.size ≤ gb287)); revert n0_ n1_ n2_ n3_; clear HB; intro HB BK287 GW287 GE287; clear hb hbox hg) | (go_at_call 23; (with_reducible refine (impl_areAll_int__impl_areColumns_1.calls _ _ l0 gb287 a1 t288 _ ?side1 ?side2 ?side3 A4.out).mono ?_); (case side1 => exact cB (Kd.C_below HR0.out HB.out)); (case side2 => exact HC0.out); (case side3 => exact by (with_reducible repeat (first | refine xq ?_ _ | refine xr ?_ | refine xo ?_ _)); exact BK287.out); rintro e w6 ⟨rfl, hb⟩; have n0_ := xm (blk_below (kB BK287) hb); have n1_ := xm (below_step bG hb); revert n0_ n1_; clear BK287 HB; intro BK287 HB; (try clear hb)))
  go_ret
  exact ⟨eB, bG⟩
 ·rw [if_neg c3] at H
  have c3b0 : decide ((l0.length : Int) ≤ 6) = false := decide_eq_false c3
  have c3b1 : decide (l0.length ≤ 6) = false := decide_eq_false (by omega)
  clear c3
  obtain rfl := Option.some.inj H
  go_enter Try.func21, Try.ntmps21
  go_wp2_with (first | ((with_reducible refine gate_dst (N := 3) rfl ?_); refine box_event ?hg (N := 3) ?hd (cs := #[.int .i64 a1]) (t := 3) ?hr ?_; (case hd => rfl); (case hg => rfl); (case hr => exact zB); intro gb287 hg w7 hbox hb; have n0_ := xm (below_step bB hb); have n1_ := xm (hbox); have n2_ := xm ((by rw [hg]; exact (xz bB) : w.heap.size ≤ gb287)); have n3_ := xm ((by rw [hg]; exact (xz bB) : w.heap.size ≤ gb287)); revert n0_ n1_ n2_ n3_; clear HB; intro HB BK287 GW287 GE287; clear hb hbox hg))
  go_ret
  exact ⟨eB, bG⟩

/-! ### impl_PickCells: function 8 -/
def impl_PickCells.f (k : Nat) (l0_0 : List Int) (l1 : List Int) : Option (List Int × Bool) := (impl_GoodRow.f l0_0).bind fun t291 => (if t291 = true then ((impl_areColumns.f l1 (l0_0.length : Int)).bind fun t292 => (if t292 = true then ((impl_Row_picked.f k l0_0 l1).bind fun t293 => (some (t293, true))) else (some (([] : List Int), false)))) else (some (([] : List Int), false)))
theorem impl_PickCells.mono : ∀ a0 a1 k, LeO (impl_PickCells.f k a0 a1) (impl_PickCells.f (k + 1) a0 a1) := by
 intro a0 a1 k
 unfold impl_PickCells.f
 repeat' first
   | (with_reducible exact impl_Row_picked.mono _ _ _)
   | (with_reducible exact LeO.refl _)
   | (with_reducible exact LeO.none _)
   | (with_reducible refine LeO.ite ?_ ?_)
   | (with_reducible refine LeO.bind ?_ (fun _ => ?_))
   | exact impl_Row_picked.mono _ _ _
   | exact LeO.none _
   | refine LeO.ite ?_ ?_
   | refine LeO.bind ?_ (fun _ => ?_)
set_option maxHeartbeats 8000000 in
set_option maxRecDepth 100000 in
theorem impl_PickCells.calls (k : Nat) (A0_0 : Option Addr) (c0_0 : Nat) (l0_0 : List Int) (A1 : Option Addr) (c1 : Nat) (l1 : List Int) (r1 : List Int) (r2 : Bool) (w : World) (hr0_0 : Kd.C (Kd.int .i64) w A0_0 l0_0.length l0_0) (hc0_0 : l0_0.length ≤ c0_0) (hr1 : Kd.C (Kd.int .i64) w A1 l1.length l1) (hc1 : l1.length ≤ c1) (h : impl_PickCells.f k l0_0 l1 = some (r1, r2)) :
  Calls Try.prog 8 #[.agg #[.slice A0_0 l0_0.length c0_0], .slice A1 l1.length c1] w fun e w' => ∃ v0_ : Value, e = .returned (.tuple #[.agg #[v0_], .bool r2]) ∧ Kd.R (Kd.int .i64) 3 w' w.heap.size (fun _ => True) v0_ r1 ∧ Below w.heap.size w w' := by
 have hu25 := Try.underlying25
 have HR0_0 := xm hr0_0
 have HC0_0 := xm hc0_0
 clear hr0_0 hc0_0
 have HR1 := xm hr1
 have HC1 := xm hc1
 clear hr1 hc1
 have HB := xm (Below.refl w.heap.size w)
 have H : ((impl_GoodRow.f l0_0).bind fun t291 => (if t291 = true then ((impl_areColumns.f l1 (l0_0.length : Int)).bind fun t292 => (if t292 = true then ((impl_Row_picked.f k l0_0 l1).bind fun t293 => (some (t293, true))) else (some (([] : List Int), false)))) else (some (([] : List Int), false)))) = some (r1, r2) := h
 clear h
 replace H := Option.bind_eq_some_iff.mp H
 obtain ⟨t291, A30, H⟩ := H
 replace H : (if t291 = true then ((impl_areColumns.f l1 (l0_0.length : Int)).bind fun t292 => (if t292 = true then ((impl_Row_picked.f k l0_0 l1).bind fun t293 => (some (t293, true))) else (some (([] : List Int), false)))) else (some (([] : List Int), false))) = some (r1, r2) := H
 have A3 := xm A30
 clear A30
 by_cases c4 : t291 = true
 ·subst c4
  have H1 : ((impl_areColumns.f l1 (l0_0.length : Int)).bind fun t292 => (if t292 = true then ((impl_Row_picked.f k l0_0 l1).bind fun t293 => (some (t293, true))) else (some (([] : List Int), false)))) = some (r1, r2) := by first | (with_reducible rfl) | (rw [if_pos rfl] at H; exact H)
  clear H
  have H := H1
  clear H1
  replace H := Option.bind_eq_some_iff.mp H
  obtain ⟨t292, A50, H⟩ := H
  replace H : (if t292 = true then ((impl_Row_picked.f k l0_0 l1).bind fun t293 => (some (t293, true))) else (some (([] : List Int), false))) = some (r1, r2) := H
  have A5 := xm A50
  clear A50
  by_cases c6 : t292 = true
  ·subst c6
   have H1 : ((impl_Row_picked.f k l0_0 l1).bind fun t293 => (some (t293, true))) = some (r1, r2) := by first | (with_reducible rfl) | (rw [if_pos rfl] at H; exact H)
   clear H
   have H := H1
   clear H1
   replace H := Option.bind_eq_some_iff.mp H
   obtain ⟨t293, A70, H⟩ := H
   replace H : (some (t293, true)) = some (r1, r2) := H
   have A7 := xm A70
   clear A70
   simp only [Option.some.injEq, Prod.mk.injEq] at H
   obtain ⟨rfl, rfl⟩ := H
   go_enter Try.func8, Try.ntmps8
   go_wp2_with (first | ((with_reducible refine gate_dst (N := 2) rfl ?_); (try (refine gate_guard (by rfl) ?_; dsimp only)); refine box_event ?hg (N := 2) ?hd (cs := #[.slice A0_0 l0_0.length c0_0]) (t := 25) ?hr ?_; (case hd => rfl); (case hg => rfl); (case hr => exact zB); intro gb289 hg w8 hbox hb; have n0_ := xm (below_step bB hb); have n1_ := xm (hbox); have n2_ := xm ((by rw [hg]; exact (xz bB) : w.heap.size ≤ gb289)); have n3_ := xm ((by rw [hg]; exact (xz bB) : w.heap.size ≤ gb289)); revert n0_ n1_ n2_ n3_; clear HB; intro HB BK289 GW289 GE289; clear hb hbox hg) | ((with_reducible refine gate_dst (N := 4) rfl ?_); (try (refine gate_guard (by rfl) ?_; dsimp only)); refine box_event ?hg (N := 4) ?hd (cs := #[.slice none 0 0]) (t := 25) ?hr ?_; (case hd => rfl); (case hg => rfl); (case hr => exact zB); intro gb290 hg w9 hbox hb; have n0_ := xm (blk_below (kB BK289) hb); have n1_ := xm (below_step bG hb); have n2_ := xm (hbox); have n3_ := xm ((by rw [hg]; exact (xz bG) : w.heap.size ≤ gb290)); have n4_ := xm ((by rw [hg]; exact (xz bG) : w.heap.size ≤ gb290)); have n5_ := xm ((by rw [hg]; exact Nat.ne_of_lt (blk_lt (kB BK289)) : gb289 ≠ gb290)); have n6_ := xm ((by rw [hg]; exact Nat.ne_of_gt (blk_lt (kB BK289)) : gb290 ≠ gb289)); revert n0_ n1_ n2_ n3_ n4_ n5_ n6_; clear BK289 HB; intro BK289 HB BK290 GW290 GE290 NB289_290 NB290_289; clear hb hbox hg; have hnb10 := NB289_290.out; have hnc10 := NB290_289.out; obtain ⟨hcz11_0, hfz11_0⟩ := cz1 BK289.out) | ((with_reducible refine gate_callee (f := 9) rfl ?_); refine goesL_ (some 7) rfl rfl Try.func9 (by kernel_rfl) rfl #[.agg #[.slice A0_0 l0_0.length c0_0]] rfl mB ?_; (with_reducible refine (impl_GoodRow.calls _ _ l0_0 true _ ?side1 ?side2 A3.out).mono ?_); (case side1 => exact cB (Kd.C_below HR0_0.out HB.out)); (case side2 => exact HC0_0.out); rintro e w12 ⟨rfl, hb⟩; refine ⟨_, rfl, ?_⟩; have n0_ := xm (blk_below (kB BK289) hb); have n1_ := xm (blk_below (kB BK290) hb); have n2_ := xm (below_step bG hb); revert n0_ n1_ n2_; clear BK289 BK290 HB; intro BK289 BK290 HB; (try clear hb); obtain ⟨hcz13_0, hfz13_0⟩ := cz1 BK289.out) | (go_at_call 21; (with_reducible refine (impl_areColumns.calls _ _ l1 (l0_0.length : Int) true _ ?side1 ?side2 A5.out).mono ?_); (case side1 => exact cB (Kd.C_below HR1.out HB.out)); (case side2 => exact HC1.out); rintro e w14 ⟨rfl, hb⟩; have n0_ := xm (blk_below (kB BK289) hb); have n1_ := xm (blk_below (kB BK290) hb); have n2_ := xm (below_step bG hb); revert n0_ n1_ n2_; clear BK289 BK290 HB; intro BK289 BK290 HB; (try clear hb); obtain ⟨hcz15_0, hfz15_0⟩ := cz1 BK289.out) | ((with_reducible refine gate_callee (f := 22) rfl ?_); refine goesL_ (some 20) rfl rfl Try.func22 (by kernel_rfl) rfl #[.agg #[.slice A0_0 l0_0.length c0_0], .slice A1 l1.length c1] rfl mB ?_; (with_reducible refine (impl_Row_picked.calls k _ _ l0_0 _ _ l1 t293 _ ?side1 ?side2 ?side3 ?side4 A7.out).mono ?_); (case side1 => exact cB (Kd.C_below HR0_0.out HB.out)); (case side2 => exact HC0_0.out); (case side3 => exact cB (Kd.C_below HR1.out HB.out)); (case side4 => exact HC1.out); rintro e w16 ⟨v294, rfl, ho0, hb⟩; refine ⟨_, rfl, ?_⟩; have n0_ := xm (Kd.R_lower ho0 (xz bG)); have n1_ := xm (blk_below (kB BK289) hb); have n2_ := xm (blk_below (kB BK290) hb); have n3_ := xm (below_step bG hb); revert n0_ n1_ n2_ n3_; clear BK289 BK290 HB; intro HO295 BK289 BK290 HB; (try clear hb); (try clear ho0); obtain ⟨Ao17, co17, eo17⟩ := Kd.R_slice HO295.out; subst eo17; obtain ⟨hcz18_0, hfz18_0⟩ := cz1 BK290.out))
   refine bodyPost_ret (results_ct rfl _ _ gb290 25 #[.slice Ao17 t293.length co17] (0, 0) _ rfl (by (with_reducible repeat (first | refine xq ?_ _ | refine xr ?_ | refine xo ?_ _)); refine blk_put (cs := #[.slice none 0 0]) ?_ 0 _ rfl; (with_reducible repeat (first | refine xq ?_ _ | refine xr ?_ | refine xo ?_ _)); exact BK290.out) Try.underlying25 rfl (by kernel_rfl)) rfl ?_
   exact ⟨_, eB, by (with_reducible repeat (first | apply Kd.R_alloc | apply Kd.R_drewN | apply Kd.R_drew)); exact Kd.R_mono (Kd.R_far (p := ⟨gb290, 0, none⟩) (Kd.R_types HO295.out BK290.out (by decide)) (fun _ hk => hk.2) (.slice Ao17 t293.length co17)) (fun _ hk => trivial), bG⟩
  ·replace c6 := Bool.eq_false_iff.mpr c6
   subst c6
   have H1 : (some (([] : List Int), false)) = some (r1, r2) := by first | (with_reducible rfl) | (rw [if_neg (show ¬ (false = true) by decide)] at H; exact H)
   clear H
   have H := H1
   clear H1
   simp only [Option.some.injEq, Prod.mk.injEq] at H
   obtain ⟨rfl, rfl⟩ := H
   go_enter Try.func8, Try.ntmps8
   go_wp2_with (first | ((with_reducible refine gate_dst (N := 2) rfl ?_); (try (refine gate_guard (by rfl) ?_; dsimp only)); refine box_event ?hg (N := 2) ?hd (cs := #[.slice A0_0 l0_0.length c0_0]) (t := 25) ?hr ?_; (case hd => rfl); (case hg => rfl); (case hr => exact zB); intro gb289 hg w19 hbox hb; have n0_ := xm (below_step bB hb); have n1_ := xm (hbox); have n2_ := xm ((by rw [hg]; exact (xz bB) : w.heap.size ≤ gb289)); have n3_ := xm ((by rw [hg]; exact (xz bB) : w.heap.size ≤ gb289)); revert n0_ n1_ n2_ n3_; clear HB; intro HB BK289 GW289 GE289; clear hb hbox hg) | ((with_reducible refine gate_dst (N := 4) rfl ?_); (try (refine gate_guard (by rfl) ?_; dsimp only)); refine box_event ?hg (N := 4) ?hd (cs := #[.slice none 0 0]) (t := 25) ?hr ?_; (case hd => rfl); (case hg => rfl); (case hr => exact zB); intro gb290 hg w20 hbox hb; have n0_ := xm (blk_below (kB BK289) hb); have n1_ := xm (below_step bG hb); have n2_ := xm (hbox); have n3_ := xm ((by rw [hg]; exact (xz bG) : w.heap.size ≤ gb290)); have n4_ := xm ((by rw [hg]; exact (xz bG) : w.heap.size ≤ gb290)); have n5_ := xm ((by rw [hg]; exact Nat.ne_of_lt (blk_lt (kB BK289)) : gb289 ≠ gb290)); have n6_ := xm ((by rw [hg]; exact Nat.ne_of_gt (blk_lt (kB BK289)) : gb290 ≠ gb289)); revert n0_ n1_ n2_ n3_ n4_ n5_ n6_; clear BK289 HB; intro BK289 HB BK290 GW290 GE290 NB289_290 NB290_289; clear hb hbox hg; have hnb21 := NB289_290.out; have hnc21 := NB290_289.out; obtain ⟨hcz22_0, hfz22_0⟩ := cz1 BK289.out) | ((with_reducible refine gate_callee (f := 9) rfl ?_); refine goesL_ (some 7) rfl rfl Try.func9 (by kernel_rfl) rfl #[.agg #[.slice A0_0 l0_0.length c0_0]] rfl mB ?_; (with_reducible refine (impl_GoodRow.calls _ _ l0_0 true _ ?side1 ?side2 A3.out).mono ?_); (case side1 => exact cB (Kd.C_below HR0_0.out HB.out)); (case side2 => exact HC0_0.out); rintro e w23 ⟨rfl, hb⟩; refine ⟨_, rfl, ?_⟩; have n0_ := xm (blk_below (kB BK289) hb); have n1_ := xm (blk_below (kB BK290) hb); have n2_ := xm (below_step bG hb); revert n0_ n1_ n2_; clear BK289 BK290 HB; intro BK289 BK290 HB; (try clear hb); obtain ⟨hcz24_0, hfz24_0⟩ := cz1 BK289.out) | (go_at_call 21; (with_reducible refine (impl_areColumns.calls _ _ l1 (l0_0.length : Int) false _ ?side1 ?side2 A5.out).mono ?_); (case side1 => exact cB (Kd.C_below HR1.out HB.out)); (case side2 => exact HC1.out); rintro e w25 ⟨rfl, hb⟩; have n0_ := xm (blk_below (kB BK289) hb); have n1_ := xm (blk_below (kB BK290) hb); have n2_ := xm (below_step bG hb); revert n0_ n1_ n2_; clear BK289 BK290 HB; intro BK289 BK290 HB; (try clear hb); obtain ⟨hcz26_0, hfz26_0⟩ := cz1 BK290.out))
   refine bodyPost_ret (results_ct rfl _ _ gb290 25 #[.slice none 0 0] (0, 0) _ rfl (by (with_reducible repeat (first | refine xq ?_ _ | refine xr ?_ | refine xo ?_ _)); refine blk_put (cs := #[.slice none 0 0]) ?_ 0 _ rfl; (with_reducible repeat (first | refine xq ?_ _ | refine xr ?_ | refine xo ?_ _)); exact BK290.out) Try.underlying25 rfl (by kernel_rfl)) rfl ?_
   exact ⟨_, eB, by first | exact Kd.R_nil _ _ _ _ _ | exact Kd.N_nil _ _ _ _ _ | exact Kd.V_nil _ _ _ _ _ | exact Kd.Q_nil _ _ _ _ _ | exact Kd.S_nil _ _ _ _ _, bG⟩
 ·replace c4 := Bool.eq_false_iff.mpr c4
  subst c4
  have H1 : (some (([] : List Int), false)) = some (r1, r2) := by first | (with_reducible rfl) | (rw [if_neg (show ¬ (false = true) by decide)] at H; exact H)
  clear H
  have H := H1
  clear H1
  simp only [Option.some.injEq, Prod.mk.injEq] at H
  obtain ⟨rfl, rfl⟩ := H
  go_enter Try.func8, Try.ntmps8
  go_wp2_with (first | ((with_reducible refine gate_dst (N := 2) rfl ?_); (try (refine gate_guard (by rfl) ?_; dsimp only)); refine box_event ?hg (N := 2) ?hd (cs := #[.slice A0_0 l0_0.length c0_0]) (t := 25) ?hr ?_; (case hd => rfl); (case hg => rfl); (case hr => exact zB); intro gb289 hg w27 hbox hb; have n0_ := xm (below_step bB hb); have n1_ := xm (hbox); have n2_ := xm ((by rw [hg]; exact (xz bB) : w.heap.size ≤ gb289)); have n3_ := xm ((by rw [hg]; exact (xz bB) : w.heap.size ≤ gb289)); revert n0_ n1_ n2_ n3_; clear HB; intro HB BK289 GW289 GE289; clear hb hbox hg) | ((with_reducible refine gate_dst (N := 4) rfl ?_); (try (refine gate_guard (by rfl) ?_; dsimp only)); refine box_event ?hg (N := 4) ?hd (cs := #[.slice none 0 0]) (t := 25) ?hr ?_; (case hd => rfl); (case hg => rfl); (case hr => exact zB); intro gb290 hg w28 hbox hb; have n0_ := xm (blk_below (kB BK289) hb); have n1_ := xm (below_step bG hb); have n2_ := xm (hbox); have n3_ := xm ((by rw [hg]; exact (xz bG) : w.heap.size ≤ gb290)); have n4_ := xm ((by rw [hg]; exact (xz bG) : w.heap.size ≤ gb290)); have n5_ := xm ((by rw [hg]; exact Nat.ne_of_lt (blk_lt (kB BK289)) : gb289 ≠ gb290)); have n6_ := xm ((by rw [hg]; exact Nat.ne_of_gt (blk_lt (kB BK289)) : gb290 ≠ gb289)); revert n0_ n1_ n2_ n3_ n4_ n5_ n6_; clear BK289 HB; intro BK289 HB BK290 GW290 GE290 NB289_290 NB290_289; clear hb hbox hg; have hnb29 := NB289_290.out; have hnc29 := NB290_289.out; obtain ⟨hcz30_0, hfz30_0⟩ := cz1 BK289.out) | ((with_reducible refine gate_callee (f := 9) rfl ?_); refine goesL_ (some 7) rfl rfl Try.func9 (by kernel_rfl) rfl #[.agg #[.slice A0_0 l0_0.length c0_0]] rfl mB ?_; (with_reducible refine (impl_GoodRow.calls _ _ l0_0 false _ ?side1 ?side2 A3.out).mono ?_); (case side1 => exact cB (Kd.C_below HR0_0.out HB.out)); (case side2 => exact HC0_0.out); rintro e w31 ⟨rfl, hb⟩; refine ⟨_, rfl, ?_⟩; have n0_ := xm (blk_below (kB BK289) hb); have n1_ := xm (blk_below (kB BK290) hb); have n2_ := xm (below_step bG hb); revert n0_ n1_ n2_; clear BK289 BK290 HB; intro BK289 BK290 HB; (try clear hb); obtain ⟨hcz32_0, hfz32_0⟩ := cz1 BK290.out))
  refine bodyPost_ret (results_ct rfl _ _ gb290 25 #[.slice none 0 0] (0, 0) _ rfl (by (with_reducible repeat (first | refine xq ?_ _ | refine xr ?_ | refine xo ?_ _)); refine blk_put (cs := #[.slice none 0 0]) ?_ 0 _ rfl; (with_reducible repeat (first | refine xq ?_ _ | refine xr ?_ | refine xo ?_ _)); exact BK290.out) Try.underlying25 rfl (by kernel_rfl)) rfl ?_
  exact ⟨_, eB, by first | exact Kd.R_nil _ _ _ _ _ | exact Kd.N_nil _ _ _ _ _ | exact Kd.V_nil _ _ _ _ _ | exact Kd.Q_nil _ _ _ _ _ | exact Kd.S_nil _ _ _ _ _, bG⟩

end Go.Proofs.Ytmelechhnimlnaa.G
