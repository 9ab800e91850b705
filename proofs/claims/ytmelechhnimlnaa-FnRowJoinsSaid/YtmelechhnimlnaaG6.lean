/- Written by a program of this claim's own, out of the translation: functions of the program as plain functions, and that the calls answer as these. No conditions. -/
import Derived.Test.YtmelechhnimlnaaG0
import Derived.Test.YtmelechhnimlnaaG2
import Derived.Test.YtmelechhnimlnaaG3
import Derived.Test.YtmelechhnimlnaaG5
namespace Go.Proofs.Ytmelechhnimlnaa.G
open Go.RowKit Go.Proofs.Ytmelechhnimlnaa.X Go.Proofs.YtmelechhnimlnaaW.PrintWords Go.Proofs.YtmelechhnimlnaaW.PrintLast Go.Proofs.YtmelechhnimlnaaW.PrintMore
attribute [local go_sem] max2_int min2_int max_two min_two max_three min_three max_four min_four   -- for this text's walks alone
set_option linter.unusedVariables false
set_option linter.unusedSimpArgs false

/-! ### impl_JoinRows: function 5 -/
def impl_JoinRows.j0 : Nat → List (List Int) → Bool → List Int → List Int → Option (List Int × Bool)
 | 0, _, _, _, _ => none
 | k + 1, x2, x28, x229000, x230000 => if x28 = true then (some (([] : List Int), false)) else ((impl_joined.f k x229000 x230000 x2).bind fun bt234 => (if bt234.2 = true then ((impl_GoodRow.f bt234.1).bind fun t239 => (if t239 = true then (some (bt234.1, true)) else (some (([] : List Int), false)))) else (some (([] : List Int), false))))
def impl_JoinRows.f (k : Nat) (l0_0 : List Int) (l1_0 : List Int) (l2 : List (List Int)) : Option (List Int × Bool) := (impl_GoodRow.f l0_0).bind fun t231 => (if t231 = true then ((impl_GoodRow.f l1_0).bind fun t232 => (if t232 = true then ((impl_arePairs.f l2 (l0_0.length : Int) (l1_0.length : Int)).bind fun t233 => (impl_JoinRows.j0 k l2 (!t233) l0_0 l1_0)) else (impl_JoinRows.j0 k l2 true l0_0 l1_0))) else (impl_JoinRows.j0 k l2 true l0_0 l1_0))
theorem impl_JoinRows.mono_l : ∀ k, (∀ y0 y1 y2 y3, LeO (impl_JoinRows.j0 k y0 y1 y2 y3) (impl_JoinRows.j0 (k + 1) y0 y1 y2 y3))
 | 0 => fun _ _ _ _ r h => by simp [impl_JoinRows.j0] at h
 | k + 1 => by
  have ih0 := impl_JoinRows.mono_l k
  ·intro y0 y1 y2 y3
   unfold impl_JoinRows.j0
   repeat' first
   | (with_reducible exact ih0 _ _ _ _)
   | (with_reducible exact impl_joined.mono _ _ _ _)
   | (with_reducible exact LeO.refl _)
   | (with_reducible exact LeO.none _)
   | (with_reducible refine LeO.ite ?_ ?_)
   | (with_reducible refine LeO.bind ?_ (fun _ => ?_))
   | exact ih0 _ _ _ _
   | exact impl_joined.mono _ _ _ _
   | exact LeO.none _
   | refine LeO.ite ?_ ?_
   | refine LeO.bind ?_ (fun _ => ?_)
theorem impl_JoinRows.mono : ∀ a0 a1 a2 k, LeO (impl_JoinRows.f k a0 a1 a2) (impl_JoinRows.f (k + 1) a0 a1 a2) := by
 intro a0 a1 a2 k
 have ih0 := impl_JoinRows.mono_l k
 unfold impl_JoinRows.f
 repeat' first
   | (with_reducible exact ih0 _ _ _ _)
   | (with_reducible exact impl_joined.mono _ _ _ _)
   | (with_reducible exact LeO.refl _)
   | (with_reducible exact LeO.none _)
   | (with_reducible refine LeO.ite ?_ ?_)
   | (with_reducible refine LeO.bind ?_ (fun _ => ?_))
   | exact ih0 _ _ _ _
   | exact impl_joined.mono _ _ _ _
   | exact LeO.none _
   | refine LeO.ite ?_ ?_
   | refine LeO.bind ?_ (fun _ => ?_)
set_option maxHeartbeats 8000000 in
set_option maxRecDepth 100000 in
theorem impl_JoinRows.calls (k : Nat) (A0_0 : Option Addr) (c0_0 : Nat) (l0_0 : List Int) (A1_0 : Option Addr) (c1_0 : Nat) (l1_0 : List Int) (A2 : Option Addr) (c2 : Nat) (l2 : List (List Int)) (r1 : List Int) (r2 : Bool) (w : World) (hr0_0 : Kd.C (Kd.int .i64) w A0_0 l0_0.length l0_0) (hc0_0 : l0_0.length ≤ c0_0) (hr1_0 : Kd.C (Kd.int .i64) w A1_0 l1_0.length l1_0) (hc1_0 : l1_0.length ≤ c1_0) (hr2 : Kd.C (Kd.slice 3 (Kd.int .i64)) w A2 l2.length l2) (hc2 : l2.length ≤ c2) (h : impl_JoinRows.f k l0_0 l1_0 l2 = some (r1, r2)) :
  Calls Try.prog 5 #[.agg #[.slice A0_0 l0_0.length c0_0], .agg #[.slice A1_0 l1_0.length c1_0], .slice A2 l2.length c2] w fun e w' => ∃ v0_ : Value, e = .returned (.tuple #[.agg #[v0_], .bool r2]) ∧ Kd.R (Kd.int .i64) 3 w' w.heap.size (fun _ => True) v0_ r1 ∧ Below w.heap.size w w' := by
 have hu25 := Try.underlying25
 have HR0_0 := xm hr0_0
 have HC0_0 := xm hc0_0
 clear hr0_0 hc0_0
 have HR1_0 := xm hr1_0
 have HC1_0 := xm hc1_0
 clear hr1_0 hc1_0
 have HR2 := xm hr2
 have HC2 := xm hc2
 clear hr2 hc2
 have HB := xm (Below.refl w.heap.size w)
 have H : ((impl_GoodRow.f l0_0).bind fun t231 => (if t231 = true then ((impl_GoodRow.f l1_0).bind fun t232 => (if t232 = true then ((impl_arePairs.f l2 (l0_0.length : Int) (l1_0.length : Int)).bind fun t233 => (impl_JoinRows.j0 k l2 (!t233) l0_0 l1_0)) else (impl_JoinRows.j0 k l2 true l0_0 l1_0))) else (impl_JoinRows.j0 k l2 true l0_0 l1_0))) = some (r1, r2) := h
 clear h
 have HC4 := xm H
 clear H
 go_enter Try.func5, Try.ntmps5
 go_upto_region 1 with (first | ((with_reducible refine gate_dst (N := 3) rfl ?_); (try (refine gate_guard (by rfl) ?_; dsimp only)); refine box_event ?hg (N := 3) ?hd (cs := #[.slice A0_0 l0_0.length c0_0]) (t := 25) ?hr ?_; (case hd => rfl); (case hg => rfl); (case hr => exact zB); intro gb228 hg w5 hbox hb; have n0_ := xm (below_step bB hb); have n1_ := xm (hbox); have n2_ := xm ((by rw [hg]; exact (xz bB) : w.heap.size ≤ gb228)); have n3_ := xm ((by rw [hg]; exact (xz bB) : w.heap.size ≤ gb228)); revert n0_ n1_ n2_ n3_; clear HB; intro HB BK228 GW228 GE228; clear hb hbox hg) | ((with_reducible refine gate_dst (N := 4) rfl ?_); (try (refine gate_guard (by rfl) ?_; dsimp only)); refine box_event ?hg (N := 4) ?hd (cs := #[.slice A1_0 l1_0.length c1_0]) (t := 25) ?hr ?_; (case hd => rfl); (case hg => rfl); (case hr => exact zB); intro gb229 hg w6 hbox hb; have n0_ := xm (blk_below (kB BK228) hb); have n1_ := xm (below_step bG hb); have n2_ := xm (hbox); have n3_ := xm ((by rw [hg]; exact (xz bG) : w.heap.size ≤ gb229)); have n4_ := xm ((by rw [hg]; exact (xz bG) : w.heap.size ≤ gb229)); have n5_ := xm ((by rw [hg]; exact Nat.ne_of_lt (blk_lt (kB BK228)) : gb228 ≠ gb229)); have n6_ := xm ((by rw [hg]; exact Nat.ne_of_gt (blk_lt (kB BK228)) : gb229 ≠ gb228)); revert n0_ n1_ n2_ n3_ n4_ n5_ n6_; clear BK228 HB; intro BK228 HB BK229 GW229 GE229 NB228_229 NB229_228; clear hb hbox hg) | ((with_reducible refine gate_dst (N := 6) rfl ?_); (try (refine gate_guard (by rfl) ?_; dsimp only)); refine box_event ?hg (N := 6) ?hd (cs := #[.slice none 0 0]) (t := 25) ?hr ?_; (case hd => rfl); (case hg => rfl); (case hr => exact zB); intro gb230 hg w7 hbox hb; have n0_ := xm (blk_below (kB BK228) hb); have n1_ := xm (blk_below (kB BK229) hb); have n2_ := xm (below_step bG hb); have n3_ := xm (hbox); have n4_ := xm ((by rw [hg]; exact (xz bG) : w.heap.size ≤ gb230)); have n5_ := xm ((by rw [hg]; exact (xz bG) : w.heap.size ≤ gb230)); have n6_ := xm ((by rw [hg]; exact Nat.ne_of_lt (blk_lt (kB BK228)) : gb228 ≠ gb230)); have n7_ := xm ((by rw [hg]; exact Nat.ne_of_gt (blk_lt (kB BK228)) : gb230 ≠ gb228)); have n8_ := xm ((by rw [hg]; exact Nat.ne_of_lt (blk_lt (kB BK229)) : gb229 ≠ gb230)); have n9_ := xm ((by rw [hg]; exact Nat.ne_of_gt (blk_lt (kB BK229)) : gb230 ≠ gb229)); revert n0_ n1_ n2_ n3_ n4_ n5_ n6_ n7_ n8_ n9_; clear BK228 BK229 HB; intro BK228 BK229 HB BK230 GW230 GE230 NB228_230 NB230_228 NB229_230 NB230_229; clear hb hbox hg))
 (try simp only [Act.put, xi, xj, xk])
 go_cut [28] (fun v28 wc => ∃ (kq : Nat) (x28_3 : Bool), v28 = .bool x28_3 ∧ Aside0 (impl_JoinRows.j0 kq l2 x28_3 l0_0 l1_0 = some (r1, r2)) ∧ Aside0 (kq ≤ k) ∧ Aside0 (wc.heap[gb228]? = some (.cells #[(.slice A0_0 l0_0.length c0_0)] 25 (0, 0))) ∧ Aside0 (wc.heap[gb229]? = some (.cells #[(.slice A1_0 l1_0.length c1_0)] 25 (0, 0))) ∧ Aside0 (wc.heap[gb230]? = some (.cells #[(.slice none 0 0)] 25 (0, 0))) ∧ Aside0 (Below w.heap.size w wc))
 case first =>
  have H := HC4.out
  clear HC4
  replace H := Option.bind_eq_some_iff.mp H
  obtain ⟨t231, A80, H⟩ := H
  replace H : (if t231 = true then ((impl_GoodRow.f l1_0).bind fun t232 => (if t232 = true then ((impl_arePairs.f l2 (l0_0.length : Int) (l1_0.length : Int)).bind fun t233 => (impl_JoinRows.j0 k l2 (!t233) l0_0 l1_0)) else (impl_JoinRows.j0 k l2 true l0_0 l1_0))) else (impl_JoinRows.j0 k l2 true l0_0 l1_0)) = some (r1, r2) := H
  have A8 := xm A80
  clear A80
  by_cases c9 : t231 = true
  ·subst c9
   have H1 : ((impl_GoodRow.f l1_0).bind fun t232 => (if t232 = true then ((impl_arePairs.f l2 (l0_0.length : Int) (l1_0.length : Int)).bind fun t233 => (impl_JoinRows.j0 k l2 (!t233) l0_0 l1_0)) else (impl_JoinRows.j0 k l2 true l0_0 l1_0))) = some (r1, r2) := by first | (with_reducible rfl) | (rw [if_pos rfl] at H; exact H)
   clear H
   have H := H1
   clear H1
   replace H := Option.bind_eq_some_iff.mp H
   obtain ⟨t232, A100, H⟩ := H
   replace H : (if t232 = true then ((impl_arePairs.f l2 (l0_0.length : Int) (l1_0.length : Int)).bind fun t233 => (impl_JoinRows.j0 k l2 (!t233) l0_0 l1_0)) else (impl_JoinRows.j0 k l2 true l0_0 l1_0)) = some (r1, r2) := H
   have A10 := xm A100
   clear A100
   by_cases c11 : t232 = true
   ·subst c11
    have H1 : ((impl_arePairs.f l2 (l0_0.length : Int) (l1_0.length : Int)).bind fun t233 => (impl_JoinRows.j0 k l2 (!t233) l0_0 l1_0)) = some (r1, r2) := by first | (with_reducible rfl) | (rw [if_pos rfl] at H; exact H)
    clear H
    have H := H1
    clear H1
    replace H := Option.bind_eq_some_iff.mp H
    obtain ⟨t233, A120, H⟩ := H
    replace H : (impl_JoinRows.j0 k l2 (!t233) l0_0 l1_0) = some (r1, r2) := H
    have A12 := xm A120
    clear A120
    have H' := xm H
    clear H
    have hnb13 := NB228_229.out
    have hnc13 := NB229_228.out
    have hnb14 := NB228_230.out
    have hnc14 := NB230_228.out
    obtain ⟨hcz15_0, hfz15_0⟩ := cz1 BK228.out
    go_wp2_with (first | ((with_reducible refine gate_callee (f := 9) rfl ?_); refine goesL_ (some 11) rfl rfl Try.func9 (by kernel_rfl) rfl #[.agg #[.slice A0_0 l0_0.length c0_0]] rfl mB ?_; (with_reducible refine (impl_GoodRow.calls _ _ l0_0 true _ ?side1 ?side2 A8.out).mono ?_); (case side1 => exact cB (Kd.C_below HR0_0.out HB.out)); (case side2 => exact HC0_0.out); rintro e w16 ⟨rfl, hb⟩; refine ⟨_, rfl, ?_⟩; have n0_ := xm (blk_below (kB BK228) hb); have n1_ := xm (blk_below (kB BK229) hb); have n2_ := xm (blk_below (kB BK230) hb); have n3_ := xm (below_step bG hb); revert n0_ n1_ n2_ n3_; clear BK228 BK229 BK230 HB; intro BK228 BK229 BK230 HB; (try clear hb); have hnb17 := NB229_230.out; have hnc17 := NB230_229.out; obtain ⟨hcz18_0, hfz18_0⟩ := cz1 BK229.out) | (go_at_call 9; (with_reducible refine (impl_GoodRow.calls _ _ l1_0 true _ ?side1 ?side2 A10.out).mono ?_); (case side1 => exact cB (Kd.C_below HR1_0.out HB.out)); (case side2 => exact HC1_0.out); rintro e w19 ⟨rfl, hb⟩; have n0_ := xm (blk_below (kB BK228) hb); have n1_ := xm (blk_below (kB BK229) hb); have n2_ := xm (blk_below (kB BK230) hb); have n3_ := xm (below_step bG hb); revert n0_ n1_ n2_ n3_; clear BK228 BK229 BK230 HB; intro BK228 BK229 BK230 HB; (try clear hb); obtain ⟨hcz20_0, hfz20_0⟩ := cz1 BK228.out; obtain ⟨hcz21_0, hfz21_0⟩ := cz1 BK229.out) | (go_at_call 15; (with_reducible refine (impl_arePairs.calls _ _ l2 (l0_0.length : Int) (l1_0.length : Int) t233 _ ?side1 ?side2 A12.out).mono ?_); (case side1 => exact cB (Kd.C_below HR2.out HB.out)); (case side2 => exact HC2.out); rintro e w22 ⟨rfl, hb⟩; have n0_ := xm (blk_below (kB BK228) hb); have n1_ := xm (blk_below (kB BK229) hb); have n2_ := xm (blk_below (kB BK230) hb); have n3_ := xm (below_step bG hb); revert n0_ n1_ n2_ n3_; clear BK228 BK229 BK230 HB; intro BK228 BK229 BK230 HB; (try clear hb)))
    go_meet
    case rel => exact ⟨_, (!t233), sB, H', ⟨by first | omega | exact Nat.le_refl _⟩, ⟨kB BK228⟩, ⟨kB BK229⟩, ⟨kB BK230⟩, ⟨bG⟩⟩
   ·replace c11 := Bool.eq_false_iff.mpr c11
    subst c11
    have H1 : (impl_JoinRows.j0 k l2 true l0_0 l1_0) = some (r1, r2) := by first | (with_reducible rfl) | (rw [if_neg (show ¬ (false = true) by decide)] at H; exact H)
    clear H
    have H := H1
    clear H1
    have H' := xm H
    clear H
    have hnb23 := NB228_229.out
    have hnc23 := NB229_228.out
    have hnb24 := NB228_230.out
    have hnc24 := NB230_228.out
    obtain ⟨hcz25_0, hfz25_0⟩ := cz1 BK228.out
    go_wp2_with (first | ((with_reducible refine gate_callee (f := 9) rfl ?_); refine goesL_ (some 11) rfl rfl Try.func9 (by kernel_rfl) rfl #[.agg #[.slice A0_0 l0_0.length c0_0]] rfl mB ?_; (with_reducible refine (impl_GoodRow.calls _ _ l0_0 true _ ?side1 ?side2 A8.out).mono ?_); (case side1 => exact cB (Kd.C_below HR0_0.out HB.out)); (case side2 => exact HC0_0.out); rintro e w26 ⟨rfl, hb⟩; refine ⟨_, rfl, ?_⟩; have n0_ := xm (blk_below (kB BK228) hb); have n1_ := xm (blk_below (kB BK229) hb); have n2_ := xm (blk_below (kB BK230) hb); have n3_ := xm (below_step bG hb); revert n0_ n1_ n2_ n3_; clear BK228 BK229 BK230 HB; intro BK228 BK229 BK230 HB; (try clear hb); have hnb27 := NB229_230.out; have hnc27 := NB230_229.out; obtain ⟨hcz28_0, hfz28_0⟩ := cz1 BK229.out) | (go_at_call 9; (with_reducible refine (impl_GoodRow.calls _ _ l1_0 false _ ?side1 ?side2 A10.out).mono ?_); (case side1 => exact cB (Kd.C_below HR1_0.out HB.out)); (case side2 => exact HC1_0.out); rintro e w29 ⟨rfl, hb⟩; have n0_ := xm (blk_below (kB BK228) hb); have n1_ := xm (blk_below (kB BK229) hb); have n2_ := xm (blk_below (kB BK230) hb); have n3_ := xm (below_step bG hb); revert n0_ n1_ n2_ n3_; clear BK228 BK229 BK230 HB; intro BK228 BK229 BK230 HB; (try clear hb)))
    go_meet
    case rel => exact ⟨_, (true), sB, H', ⟨by first | omega | exact Nat.le_refl _⟩, ⟨kB BK228⟩, ⟨kB BK229⟩, ⟨kB BK230⟩, ⟨bG⟩⟩
  ·replace c9 := Bool.eq_false_iff.mpr c9
   subst c9
   have H1 : (impl_JoinRows.j0 k l2 true l0_0 l1_0) = some (r1, r2) := by first | (with_reducible rfl) | (rw [if_neg (show ¬ (false = true) by decide)] at H; exact H)
   clear H
   have H := H1
   clear H1
   have H' := xm H
   clear H
   have hnb30 := NB228_229.out
   have hnc30 := NB229_228.out
   have hnb31 := NB228_230.out
   have hnc31 := NB230_228.out
   obtain ⟨hcz32_0, hfz32_0⟩ := cz1 BK228.out
   go_wp2_with (first | ((with_reducible refine gate_callee (f := 9) rfl ?_); refine goesL_ (some 11) rfl rfl Try.func9 (by kernel_rfl) rfl #[.agg #[.slice A0_0 l0_0.length c0_0]] rfl mB ?_; (with_reducible refine (impl_GoodRow.calls _ _ l0_0 false _ ?side1 ?side2 A8.out).mono ?_); (case side1 => exact cB (Kd.C_below HR0_0.out HB.out)); (case side2 => exact HC0_0.out); rintro e w33 ⟨rfl, hb⟩; refine ⟨_, rfl, ?_⟩; have n0_ := xm (blk_below (kB BK228) hb); have n1_ := xm (blk_below (kB BK229) hb); have n2_ := xm (blk_below (kB BK230) hb); have n3_ := xm (below_step bG hb); revert n0_ n1_ n2_ n3_; clear BK228 BK229 BK230 HB; intro BK228 BK229 BK230 HB; (try clear hb)))
   go_meet
   case rel => exact ⟨_, (true), sB, H', ⟨by first | omega | exact Nat.le_refl _⟩, ⟨kB BK228⟩, ⟨kB BK229⟩, ⟨kB BK230⟩, ⟨bG⟩⟩
 case rest =>
  clear HC4
  try clear c1
  try clear c2
  try clear p2
  try clear c3
  try clear c5
  try clear c9
  try clear c11
  try clear c13
  try clear c14
  try clear c17
  try clear c23
  try clear c24
  try clear c27
  try clear c30
  try clear c31
  try clear hcz15_0
  try clear hcz18_0
  try clear hcz20_0
  try clear hcz21_0
  try clear hcz25_0
  try clear hcz28_0
  try clear hcz32_0
  try clear hfz15_0
  try clear hfz18_0
  try clear hfz20_0
  try clear hfz21_0
  try clear hfz25_0
  try clear hfz28_0
  try clear hfz32_0
  obtain ⟨kq, x28_3, rfl, HA, HJ3, BK228, BK229, BK230, HB⟩ := hcut
  cases kq with
  | zero => exact absurd HA.out (by simp [impl_JoinRows.j0])
  | succ kj3 =>
   have H := HA.out
   clear HA
   simp only [impl_JoinRows.j0] at H
   by_cases c34 : x28_3 = true
   ·subst c34
    have H1 : (some (([] : List Int), false)) = some (r1, r2) := by first | (with_reducible rfl) | (rw [if_pos rfl] at H; exact H)
    clear H
    have H := H1
    clear H1
    simp only [Option.some.injEq, Prod.mk.injEq] at H
    obtain ⟨rfl, rfl⟩ := H
    have hnb35 := NB230_228.out
    have hnc35 := NB228_230.out
    have hnb36 := NB230_229.out
    have hnc36 := NB229_230.out
    obtain ⟨hcz37_0, hfz37_0⟩ := cz1 BK230.out
    go_wp2
    refine bodyPost_ret (results_ct rfl _ _ gb230 25 #[.slice none 0 0] (0, 0) _ rfl (by (with_reducible repeat (first | refine xq ?_ _ | refine xr ?_ | refine xo ?_ _)); refine blk_put (cs := #[.slice none 0 0]) ?_ 0 _ rfl; (with_reducible repeat (first | refine xq ?_ _ | refine xr ?_ | refine xo ?_ _)); exact BK230.out) Try.underlying25 rfl (by kernel_rfl)) rfl ?_
    exact ⟨_, eB, by first | exact Kd.R_nil _ _ _ _ _ | exact Kd.N_nil _ _ _ _ _ | exact Kd.V_nil _ _ _ _ _ | exact Kd.Q_nil _ _ _ _ _ | exact Kd.S_nil _ _ _ _ _, bG⟩
   ·replace c34 := Bool.eq_false_iff.mpr c34
    subst c34
    have H1 : ((impl_joined.f kj3 l0_0 l1_0 l2).bind fun bt234 => (if bt234.2 = true then ((impl_GoodRow.f bt234.1).bind fun t239 => (if t239 = true then (some (bt234.1, true)) else (some (([] : List Int), false)))) else (some (([] : List Int), false)))) = some (r1, r2) := by first | (with_reducible rfl) | (rw [if_neg (show ¬ (false = true) by decide)] at H; exact H)
    clear H
    have H := H1
    clear H1
    replace H := Option.bind_eq_some_iff.mp H
    obtain ⟨⟨t234, t237⟩, A380, H⟩ := H
    replace H : (if t237 = true then ((impl_GoodRow.f t234).bind fun t239 => (if t239 = true then (some (t234, true)) else (some (([] : List Int), false)))) else (some (([] : List Int), false))) = some (r1, r2) := H
    have A38 := xm A380
    clear A380
    by_cases c39 : t237 = true
    ·subst c39
     have H1 : ((impl_GoodRow.f t234).bind fun t239 => (if t239 = true then (some (t234, true)) else (some (([] : List Int), false)))) = some (r1, r2) := by first | (with_reducible rfl) | (rw [if_pos rfl] at H; exact H)
     clear H
     have H := H1
     clear H1
     replace H := Option.bind_eq_some_iff.mp H
     obtain ⟨t239, A400, H⟩ := H
     replace H : (if t239 = true then (some (t234, true)) else (some (([] : List Int), false))) = some (r1, r2) := H
     have A40 := xm A400
     clear A400
     by_cases c41 : t239 = true
     ·subst c41
      have H1 : (some (t234, true)) = some (r1, r2) := by first | (with_reducible rfl) | (rw [if_pos rfl] at H; exact H)
      clear H
      have H := H1
      clear H1
      simp only [Option.some.injEq, Prod.mk.injEq] at H
      obtain ⟨rfl, rfl⟩ := H
      have hnb42 := NB228_229.out
      have hnc42 := NB229_228.out
      have hnb43 := NB228_230.out
      have hnc43 := NB230_228.out
      obtain ⟨hcz44_0, hfz44_0⟩ := cz1 BK228.out
      have hnb45 := NB229_230.out
      have hnc45 := NB230_229.out
      obtain ⟨hcz46_0, hfz46_0⟩ := cz1 BK229.out
      go_wp2_with (first | ((with_reducible refine gate_callee (f := 16) rfl ?_); refine goesL_ (some 34) rfl rfl Try.func16 (by kernel_rfl) rfl #[.agg #[.slice A0_0 l0_0.length c0_0], .agg #[.slice A1_0 l1_0.length c1_0], .slice A2 l2.length c2] rfl mB ?_; (with_reducible refine (impl_joined.calls kj3 (fun k_ => k_ < w.heap.size) _ _ l0_0 _ _ l1_0 _ _ l2 t234 true _ ?side1 ?side2 ?side3 ?side4 ?side5 A38.out).mono ?_); (case side1 => exact Kd.V_mk HC0_0.out (Kd.F_below (Kd.C_F (Kd.heap_int .i64) HR0_0.out) bG)); (case side2 => exact cB (Kd.C_below HR1_0.out HB.out)); (case side3 => exact HC1_0.out); (case side4 => exact cB (Kd.C_below HR2.out HB.out)); (case side5 => exact HC2.out); rintro e w47 ⟨v235, rfl, ho0, hb⟩; refine ⟨_, rfl, ?_⟩; have n0_ := xm (Kd.R_lower (Kd.R_mono (ok' := fun k_ => True) ho0 (fun _ hk_ => trivial)) (xz bG)); have n1_ := xm (blk_below (kB BK228) hb); have n2_ := xm (blk_below (kB BK229) hb); have n3_ := xm (blk_below (kB BK230) hb); have n4_ := xm (below_step bG hb); revert n0_ n1_ n2_ n3_ n4_; clear BK228 BK229 BK230 HB; intro HO236 BK228 BK229 BK230 HB; (try clear hb); (try clear ho0)) | ((with_reducible refine gate_dst (N := 8) rfl ?_); (try (refine gate_guard (by rfl) ?_; dsimp only)); refine box_event ?hg (N := 8) ?hd (cs := #[.slice none 0 0]) (t := 25) ?hr ?_; (case hd => rfl); (case hg => rfl); (case hr => exact zB); intro gb238 hg w48 hbox hb; have n0_ := xm (Kd.R_below (rB HO236) hb); have n1_ := xm (blk_below (kB BK228) hb); have n2_ := xm (blk_below (kB BK229) hb); have n3_ := xm (blk_below (kB BK230) hb); have n4_ := xm (below_step bG hb); have n5_ := xm (hbox); have n6_ := xm ((by rw [hg]; exact (xz bG) : w.heap.size ≤ gb238)); have n7_ := xm ((by rw [hg]; exact (xz bG) : w.heap.size ≤ gb238)); have n8_ := xm ((by rw [hg]; exact Nat.ne_of_lt (blk_lt (kB BK228)) : gb228 ≠ gb238)); have n9_ := xm ((by rw [hg]; exact Nat.ne_of_gt (blk_lt (kB BK228)) : gb238 ≠ gb228)); have n10_ := xm ((by rw [hg]; exact Nat.ne_of_lt (blk_lt (kB BK229)) : gb229 ≠ gb238)); have n11_ := xm ((by rw [hg]; exact Nat.ne_of_gt (blk_lt (kB BK229)) : gb238 ≠ gb229)); have n12_ := xm ((by rw [hg]; exact Nat.ne_of_lt (blk_lt (kB BK230)) : gb230 ≠ gb238)); have n13_ := xm ((by rw [hg]; exact Nat.ne_of_gt (blk_lt (kB BK230)) : gb238 ≠ gb230)); revert n0_ n1_ n2_ n3_ n4_ n5_ n6_ n7_ n8_ n9_ n10_ n11_ n12_ n13_; clear HO236 BK228 BK229 BK230 HB; intro HO236 BK228 BK229 BK230 HB BK238 GW238 GE238 NB228_238 NB238_228 NB229_238 NB238_229 NB230_238 NB238_230; clear hb hbox hg; obtain ⟨Ao49, co49, eo49⟩ := Kd.R_slice HO236.out; subst eo49; have hnb50 := NB238_228.out; have hnc50 := NB228_238.out; have hnb51 := NB238_229.out; have hnc51 := NB229_238.out; have hnb52 := NB238_230.out; have hnc52 := NB230_238.out; obtain ⟨hcz53_0, hfz53_0⟩ := cz1 BK238.out) | (go_at_call 9; (with_reducible refine (impl_GoodRow.calls _ _ t234 true _ ?side1 ?side2 A40.out).mono ?_); (case side1 => refine (Kd.R_reads' (e := 3) (base := w.heap.size) (ok := fun k_ => True) (n := t234.length) (c := co49) ?_).2.2; exact (rF HO236 BK238 (.slice Ao49 t234.length co49))); (case side2 => exact (Kd.R_reads' HO236.out).2.1); rintro e w54 ⟨rfl, hb⟩; have n0_ := xm (Kd.R_below (rF HO236 BK238 (.slice Ao49 t234.length co49)) hb); have n1_ := xm (blk_below (kF BK228 NB228_238) hb); have n2_ := xm (blk_below (kF BK229 NB229_238) hb); have n3_ := xm (blk_below (kF BK230 NB230_238) hb); have n4_ := xm (blk_below (g := gb238) (o := .cells #[.slice Ao49 t234.length co49] 25 (0, 0)) (by (with_reducible repeat (first | refine xq ?_ _ | refine xr ?_ | refine xo ?_ _)); refine blk_put (cs := #[.slice none 0 0]) ?_ 0 _ rfl; (with_reducible repeat (first | refine xq ?_ _ | refine xr ?_ | refine xo ?_ _)); exact BK238.out) hb); have n5_ := xm (below_step bG hb); revert n0_ n1_ n2_ n3_ n4_ n5_; clear HO236 BK228 BK229 BK230 BK238 HB; intro HO236 BK228 BK229 BK230 BK238 HB; (try clear hb); obtain ⟨hcz55_0, hfz55_0⟩ := cz1 BK238.out; obtain ⟨hcz56_0, hfz56_0⟩ := cz1 BK230.out))
      refine bodyPost_ret (results_ct rfl _ _ gb230 25 #[.slice Ao49 t234.length co49] (0, 0) _ rfl (by (with_reducible repeat (first | refine xq ?_ _ | refine xr ?_ | refine xo ?_ _)); refine blk_put (cs := #[.slice none 0 0]) ?_ 0 _ rfl; (with_reducible repeat (first | refine xq ?_ _ | refine xr ?_ | refine xo ?_ _)); exact BK230.out) Try.underlying25 rfl (by kernel_rfl)) rfl ?_
      exact ⟨_, eB, by (with_reducible repeat (first | apply Kd.R_alloc | apply Kd.R_drewN | apply Kd.R_drew)); exact Kd.R_mono (Kd.R_far (p := ⟨gb230, 0, none⟩) (Kd.R_types HO236.out BK230.out (by decide)) (fun _ hk => hk.2) (.slice Ao49 t234.length co49)) (fun _ hk => trivial), bG⟩
     ·replace c41 := Bool.eq_false_iff.mpr c41
      subst c41
      have H1 : (some (([] : List Int), false)) = some (r1, r2) := by first | (with_reducible rfl) | (rw [if_neg (show ¬ (false = true) by decide)] at H; exact H)
      clear H
      have H := H1
      clear H1
      simp only [Option.some.injEq, Prod.mk.injEq] at H
      obtain ⟨rfl, rfl⟩ := H
      have hnb57 := NB228_229.out
      have hnc57 := NB229_228.out
      have hnb58 := NB228_230.out
      have hnc58 := NB230_228.out
      obtain ⟨hcz59_0, hfz59_0⟩ := cz1 BK228.out
      have hnb60 := NB229_230.out
      have hnc60 := NB230_229.out
      obtain ⟨hcz61_0, hfz61_0⟩ := cz1 BK229.out
      go_wp2_with (first | ((with_reducible refine gate_callee (f := 16) rfl ?_); refine goesL_ (some 34) rfl rfl Try.func16 (by kernel_rfl) rfl #[.agg #[.slice A0_0 l0_0.length c0_0], .agg #[.slice A1_0 l1_0.length c1_0], .slice A2 l2.length c2] rfl mB ?_; (with_reducible refine (impl_joined.calls kj3 (fun k_ => k_ < w.heap.size) _ _ l0_0 _ _ l1_0 _ _ l2 t234 true _ ?side1 ?side2 ?side3 ?side4 ?side5 A38.out).mono ?_); (case side1 => exact Kd.V_mk HC0_0.out (Kd.F_below (Kd.C_F (Kd.heap_int .i64) HR0_0.out) bG)); (case side2 => exact cB (Kd.C_below HR1_0.out HB.out)); (case side3 => exact HC1_0.out); (case side4 => exact cB (Kd.C_below HR2.out HB.out)); (case side5 => exact HC2.out); rintro e w62 ⟨v235, rfl, ho0, hb⟩; refine ⟨_, rfl, ?_⟩; have n0_ := xm (Kd.R_lower (Kd.R_mono (ok' := fun k_ => True) ho0 (fun _ hk_ => trivial)) (xz bG)); have n1_ := xm (blk_below (kB BK228) hb); have n2_ := xm (blk_below (kB BK229) hb); have n3_ := xm (blk_below (kB BK230) hb); have n4_ := xm (below_step bG hb); revert n0_ n1_ n2_ n3_ n4_; clear BK228 BK229 BK230 HB; intro HO236 BK228 BK229 BK230 HB; (try clear hb); (try clear ho0)) | ((with_reducible refine gate_dst (N := 8) rfl ?_); (try (refine gate_guard (by rfl) ?_; dsimp only)); refine box_event ?hg (N := 8) ?hd (cs := #[.slice none 0 0]) (t := 25) ?hr ?_; (case hd => rfl); (case hg => rfl); (case hr => exact zB); intro gb238 hg w63 hbox hb; have n0_ := xm (Kd.R_below (rB HO236) hb); have n1_ := xm (blk_below (kB BK228) hb); have n2_ := xm (blk_below (kB BK229) hb); have n3_ := xm (blk_below (kB BK230) hb); have n4_ := xm (below_step bG hb); have n5_ := xm (hbox); have n6_ := xm ((by rw [hg]; exact (xz bG) : w.heap.size ≤ gb238)); have n7_ := xm ((by rw [hg]; exact (xz bG) : w.heap.size ≤ gb238)); have n8_ := xm ((by rw [hg]; exact Nat.ne_of_lt (blk_lt (kB BK228)) : gb228 ≠ gb238)); have n9_ := xm ((by rw [hg]; exact Nat.ne_of_gt (blk_lt (kB BK228)) : gb238 ≠ gb228)); have n10_ := xm ((by rw [hg]; exact Nat.ne_of_lt (blk_lt (kB BK229)) : gb229 ≠ gb238)); have n11_ := xm ((by rw [hg]; exact Nat.ne_of_gt (blk_lt (kB BK229)) : gb238 ≠ gb229)); have n12_ := xm ((by rw [hg]; exact Nat.ne_of_lt (blk_lt (kB BK230)) : gb230 ≠ gb238)); have n13_ := xm ((by rw [hg]; exact Nat.ne_of_gt (blk_lt (kB BK230)) : gb238 ≠ gb230)); revert n0_ n1_ n2_ n3_ n4_ n5_ n6_ n7_ n8_ n9_ n10_ n11_ n12_ n13_; clear HO236 BK228 BK229 BK230 HB; intro HO236 BK228 BK229 BK230 HB BK238 GW238 GE238 NB228_238 NB238_228 NB229_238 NB238_229 NB230_238 NB238_230; clear hb hbox hg; obtain ⟨Ao64, co64, eo64⟩ := Kd.R_slice HO236.out; subst eo64; have hnb65 := NB238_228.out; have hnc65 := NB228_238.out; have hnb66 := NB238_229.out; have hnc66 := NB229_238.out; have hnb67 := NB238_230.out; have hnc67 := NB230_238.out; obtain ⟨hcz68_0, hfz68_0⟩ := cz1 BK238.out) | (go_at_call 9; (with_reducible refine (impl_GoodRow.calls _ _ t234 false _ ?side1 ?side2 A40.out).mono ?_); (case side1 => refine (Kd.R_reads' (e := 3) (base := w.heap.size) (ok := fun k_ => True) (n := t234.length) (c := co64) ?_).2.2; exact (rF HO236 BK238 (.slice Ao64 t234.length co64))); (case side2 => exact (Kd.R_reads' HO236.out).2.1); rintro e w69 ⟨rfl, hb⟩; have n0_ := xm (Kd.R_below (rF HO236 BK238 (.slice Ao64 t234.length co64)) hb); have n1_ := xm (blk_below (kF BK228 NB228_238) hb); have n2_ := xm (blk_below (kF BK229 NB229_238) hb); have n3_ := xm (blk_below (kF BK230 NB230_238) hb); have n4_ := xm (blk_below (g := gb238) (o := .cells #[.slice Ao64 t234.length co64] 25 (0, 0)) (by (with_reducible repeat (first | refine xq ?_ _ | refine xr ?_ | refine xo ?_ _)); refine blk_put (cs := #[.slice none 0 0]) ?_ 0 _ rfl; (with_reducible repeat (first | refine xq ?_ _ | refine xr ?_ | refine xo ?_ _)); exact BK238.out) hb); have n5_ := xm (below_step bG hb); revert n0_ n1_ n2_ n3_ n4_ n5_; clear HO236 BK228 BK229 BK230 BK238 HB; intro HO236 BK228 BK229 BK230 BK238 HB; (try clear hb); obtain ⟨hcz70_0, hfz70_0⟩ := cz1 BK230.out))
      refine bodyPost_ret (results_ct rfl _ _ gb230 25 #[.slice none 0 0] (0, 0) _ rfl (by (with_reducible repeat (first | refine xq ?_ _ | refine xr ?_ | refine xo ?_ _)); refine blk_put (cs := #[.slice none 0 0]) ?_ 0 _ rfl; (with_reducible repeat (first | refine xq ?_ _ | refine xr ?_ | refine xo ?_ _)); exact BK230.out) Try.underlying25 rfl (by kernel_rfl)) rfl ?_
      exact ⟨_, eB, by first | exact Kd.R_nil _ _ _ _ _ | exact Kd.N_nil _ _ _ _ _ | exact Kd.V_nil _ _ _ _ _ | exact Kd.Q_nil _ _ _ _ _ | exact Kd.S_nil _ _ _ _ _, bG⟩
    ·replace c39 := Bool.eq_false_iff.mpr c39
     subst c39
     have H1 : (some (([] : List Int), false)) = some (r1, r2) := by first | (with_reducible rfl) | (rw [if_neg (show ¬ (false = true) by decide)] at H; exact H)
     clear H
     have H := H1
     clear H1
     simp only [Option.some.injEq, Prod.mk.injEq] at H
     obtain ⟨rfl, rfl⟩ := H
     have hnb71 := NB228_229.out
     have hnc71 := NB229_228.out
     have hnb72 := NB228_230.out
     have hnc72 := NB230_228.out
     obtain ⟨hcz73_0, hfz73_0⟩ := cz1 BK228.out
     have hnb74 := NB229_230.out
     have hnc74 := NB230_229.out
     obtain ⟨hcz75_0, hfz75_0⟩ := cz1 BK229.out
     go_wp2_with (first | ((with_reducible refine gate_callee (f := 16) rfl ?_); refine goesL_ (some 34) rfl rfl Try.func16 (by kernel_rfl) rfl #[.agg #[.slice A0_0 l0_0.length c0_0], .agg #[.slice A1_0 l1_0.length c1_0], .slice A2 l2.length c2] rfl mB ?_; (with_reducible refine (impl_joined.calls kj3 (fun k_ => k_ < w.heap.size) _ _ l0_0 _ _ l1_0 _ _ l2 t234 false _ ?side1 ?side2 ?side3 ?side4 ?side5 A38.out).mono ?_); (case side1 => exact Kd.V_mk HC0_0.out (Kd.F_below (Kd.C_F (Kd.heap_int .i64) HR0_0.out) bG)); (case side2 => exact cB (Kd.C_below HR1_0.out HB.out)); (case side3 => exact HC1_0.out); (case side4 => exact cB (Kd.C_below HR2.out HB.out)); (case side5 => exact HC2.out); rintro e w76 ⟨v235, rfl, ho0, hb⟩; refine ⟨_, rfl, ?_⟩; have n0_ := xm (Kd.R_lower (Kd.R_mono (ok' := fun k_ => True) ho0 (fun _ hk_ => trivial)) (xz bG)); have n1_ := xm (blk_below (kB BK228) hb); have n2_ := xm (blk_below (kB BK229) hb); have n3_ := xm (blk_below (kB BK230) hb); have n4_ := xm (below_step bG hb); revert n0_ n1_ n2_ n3_ n4_; clear BK228 BK229 BK230 HB; intro HO236 BK228 BK229 BK230 HB; (try clear hb); (try clear ho0)) | ((with_reducible refine gate_dst (N := 8) rfl ?_); (try (refine gate_guard (by rfl) ?_; dsimp only)); refine box_event ?hg (N := 8) ?hd (cs := #[.slice none 0 0]) (t := 25) ?hr ?_; (case hd => rfl); (case hg => rfl); (case hr => exact zB); intro gb238 hg w77 hbox hb; have n0_ := xm (Kd.R_below (rB HO236) hb); have n1_ := xm (blk_below (kB BK228) hb); have n2_ := xm (blk_below (kB BK229) hb); have n3_ := xm (blk_below (kB BK230) hb); have n4_ := xm (below_step bG hb); have n5_ := xm (hbox); have n6_ := xm ((by rw [hg]; exact (xz bG) : w.heap.size ≤ gb238)); have n7_ := xm ((by rw [hg]; exact (xz bG) : w.heap.size ≤ gb238)); have n8_ := xm ((by rw [hg]; exact Nat.ne_of_lt (blk_lt (kB BK228)) : gb228 ≠ gb238)); have n9_ := xm ((by rw [hg]; exact Nat.ne_of_gt (blk_lt (kB BK228)) : gb238 ≠ gb228)); have n10_ := xm ((by rw [hg]; exact Nat.ne_of_lt (blk_lt (kB BK229)) : gb229 ≠ gb238)); have n11_ := xm ((by rw [hg]; exact Nat.ne_of_gt (blk_lt (kB BK229)) : gb238 ≠ gb229)); have n12_ := xm ((by rw [hg]; exact Nat.ne_of_lt (blk_lt (kB BK230)) : gb230 ≠ gb238)); have n13_ := xm ((by rw [hg]; exact Nat.ne_of_gt (blk_lt (kB BK230)) : gb238 ≠ gb230)); revert n0_ n1_ n2_ n3_ n4_ n5_ n6_ n7_ n8_ n9_ n10_ n11_ n12_ n13_; clear HO236 BK228 BK229 BK230 HB; intro HO236 BK228 BK229 BK230 HB BK238 GW238 GE238 NB228_238 NB238_228 NB229_238 NB238_229 NB230_238 NB238_230; clear hb hbox hg; obtain ⟨Ao78, co78, eo78⟩ := Kd.R_slice HO236.out; subst eo78; have hnb79 := NB238_228.out; have hnc79 := NB228_238.out; have hnb80 := NB238_229.out; have hnc80 := NB229_238.out; have hnb81 := NB238_230.out; have hnc81 := NB230_238.out; obtain ⟨hcz82_0, hfz82_0⟩ := cz1 BK238.out; obtain ⟨hcz83_0, hfz83_0⟩ := cz1 BK230.out))
     refine bodyPost_ret (results_ct rfl _ _ gb230 25 #[.slice none 0 0] (0, 0) _ rfl (by (with_reducible repeat (first | refine xq ?_ _ | refine xr ?_ | refine xo ?_ _)); refine blk_put (cs := #[.slice none 0 0]) ?_ 0 _ rfl; (with_reducible repeat (first | refine xq ?_ _ | refine xr ?_ | refine xo ?_ _)); refine blk_far ?_ NB230_238.out _; (with_reducible repeat (first | refine xq ?_ _ | refine xr ?_ | refine xo ?_ _)); exact BK230.out) Try.underlying25 rfl (by kernel_rfl)) rfl ?_
     exact ⟨_, eB, by first | exact Kd.R_nil _ _ _ _ _ | exact Kd.N_nil _ _ _ _ _ | exact Kd.V_nil _ _ _ _ _ | exact Kd.Q_nil _ _ _ _ _ | exact Kd.S_nil _ _ _ _ _, bG⟩

end Go.Proofs.Ytmelechhnimlnaa.G
